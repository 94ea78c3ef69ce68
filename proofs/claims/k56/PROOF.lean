import PyProof.Rows.All
import Wide.All
import OpenK.AllK
import Wide.FinOn
import PySem.Challenge.RW_beforeitcomes_k56_whole_rooms_as_spans_c
import HandS.ForMost
import HandS.Zip
import HandS.TupAny
import HandS.TupMul
import HandS.Wide
import HandS.Deep
import HandS.Style
import HandS.Conv
import HandS.IsInst
import HandS.Flow
import HandS.SortInts
import HandS.Star
import KE.KTupSum
import KE.DataMinMax
import KE.GoesEnum
import KE.SortData
import HandS.Gcd
import KE.DataCmp
import PyProof.ReprRoads
import HandS.TupLen
import HandS.WordsDict
import PyProof.NeData
set_option Elab.async false
set_option linter.all false
set_option maxRecDepth 100000
/-! DL: data as trees over the hand layer; readings as programs over data. -/
namespace DL
open PySem PySem.Spec PyProof.Rows L2

/-- plain data; src: the one source of draws -/
inductive D where
  | non | bl (b : Bool) | int (i : Int) | str (x : Str) | tup (xs : List D) | lst (xs : List D) | src | ty (n : String) | dct (ks vs : List D)

/-- what is known to stand for ever, and the source's two cells -/
structure Gh where
  F : Hp
  s : Option (Addr × Addr)
def Gh.isS (G : Gh) (b : Addr) : Prop := ∃ p, G.s = some p ∧ (b = p.1 ∨ b = p.2)

/-- a dict's keys as data -/
def keyD : Key → D
  | .inl i => .int i
  | .inr x => .str x
/-- what stands at a dict's place: its keys (numbers, texts, or tuples of these), its values -/
def DctAt (o : HO) (ks : List D) (ws : List V) : Prop :=
  (∃ kvs : List (Key × V), o = .dK kvs ∧ ks = kvs.map (fun p => keyD p.1) ∧ ws = kvs.map (·.2)) ∨ ∃ kvs : List (List Key × V), o = .dT kvs ∧ ks = kvs.map (fun p => .tup (p.1.map keyD)) ∧ ws = kvs.map (·.2)
mutual
def Rep (G : Gh) : D → V → Prop
  | .non, v => v = .non
  | .bl b, v => v = .bl b
  | .int i, v => v = .int i
  | .str x, v => v = .str x
  | .tup xs, v => ∃ a vs, v = .ref a ∧ G.F a = some (.tup vs) ∧ RepL G xs vs
  | .lst xs, v => ∃ a vs, v = .ref a ∧ G.F a = some (.lst vs) ∧ RepL G xs vs
  | .src, v => ∃ p, G.s = some p ∧ v = .ref p.1
  | .ty n, v => v = .ty n
  | .dct ks xs, v => ∃ a o ws, v = .ref a ∧ G.F a = some o ∧ DctAt o ks ws ∧ RepL G xs ws
def RepL (G : Gh) : List D → List V → Prop
  | [], vs => vs = []
  | x :: xs, vs => ∃ v r, vs = v :: r ∧ Rep G x v ∧ RepL G xs r
end

/-- the source: its dict and its list of cells -/
def SrcOk (H : Hp) (ds cs : Addr) : Prop :=
  ∃ (cells : List Int) (left mixed turn : Int),
    H ds = some (.dK [(Sum.inr "cells", .ref cs), (Sum.inr "left", .int left), (Sum.inr "mixed", .int mixed), (Sum.inr "turn", .int turn)]) ∧
    H cs = some (.lst (cells.map V.int))

structure GRel (G : Gh) (H : Hp) : Prop where
  f : Same G.F H
  s : ∀ p, G.s = some p → G.F p.1 = none ∧ G.F p.2 = none ∧ p.1 ≠ p.2 ∧ SrcOk H p.1 p.2

structure Step (G : Gh) (H : Hp) (G' : Gh) (H' : Hp) : Prop where
  f : Same G.F G'.F
  s : ∀ p, G.s = some p → G'.s = some p
  keep : ∀ b o, H b = some o → ¬ G.isS b → H' b = some o
  there : ∀ b o, H b = some o → ∃ o', H' b = some o'
  nof : ∀ b o, H b = some o → G.F b = none → G'.F b = none
  nos : ∀ b o, H b = some o → ¬ G.isS b → ¬ G'.isS b

theorem Step.refl (G : Gh) (H : Hp) : Step G H G H :=
  ⟨Same.refl _, fun _ h => h, fun _ _ h _ => h, fun _ o h => ⟨o, h⟩, fun _ _ _ h => h, fun _ _ _ h => h⟩
theorem Step.trans {G G1 G2 : Gh} {H H1 H2 : Hp} (a : Step G H G1 H1) (b : Step G1 H1 G2 H2) : Step G H G2 H2 where
  f := a.f.trans b.f
  s := fun p h => b.s p (a.s p h)
  keep := fun x o h n => b.keep x o (a.keep x o h n) (a.nos x o h n)
  there := fun x o h => let ⟨o1, h1⟩ := a.there x o h; b.there x o1 h1
  nof := fun x o h n => let ⟨o1, h1⟩ := a.there x o h; b.nof x o1 h1 (a.nof x o h n)
  nos := fun x o h n => b.nos x o (a.keep x o h n) (a.nos x o h n)

/-- G grows -/
structure Gle (G G' : Gh) : Prop where
  f : Same G.F G'.F
  s : ∀ p, G.s = some p → G'.s = some p
theorem Gle.refl (G : Gh) : Gle G G := ⟨Same.refl _, fun _ h => h⟩
theorem Gle.trans {G G1 G2 : Gh} (a : Gle G G1) (b : Gle G1 G2) : Gle G G2 := ⟨a.f.trans b.f, fun p h => b.s p (a.s p h)⟩
theorem Step.le {G G' : Gh} {H H' : Hp} (a : Step G H G' H') : Gle G G' := ⟨a.f, a.s⟩

mutual
theorem Rep.mono {G G' : Gh} (l : Gle G G') : ∀ {d : D} {v : V}, Rep G d v → Rep G' d v
  | .non, _, h => h
  | .bl _, _, h => h
  | .int _, _, h => h
  | .str _, _, h => h
  | .tup xs, v, h => by
    obtain ⟨a, vs, e, h1, h2⟩ := h
    exact ⟨a, vs, e, l.f _ _ h1, RepL.mono l h2⟩
  | .lst xs, v, h => by
    obtain ⟨a, vs, e, h1, h2⟩ := h
    exact ⟨a, vs, e, l.f _ _ h1, RepL.mono l h2⟩
  | .src, v, h => by
    obtain ⟨p, h1, h2⟩ := h
    exact ⟨p, l.s _ h1, h2⟩
  | .ty _, _, h => h
  | .dct ks xs, v, h => by
    obtain ⟨a, o, ws, e, h1, h2, h3⟩ := h
    exact ⟨a, o, ws, e, l.f _ _ h1, h2, RepL.mono l h3⟩
theorem RepL.mono {G G' : Gh} (l : Gle G G') : ∀ {ds : List D} {vs : List V}, RepL G ds vs → RepL G' ds vs
  | [], _, h => h
  | x :: xs, vs, h => by
    obtain ⟨v, r, e, h1, h2⟩ := h
    exact ⟨v, r, e, Rep.mono l h1, RepL.mono l h2⟩
end
theorem RepL.length {G : Gh} : ∀ {ds : List D} {vs : List V}, RepL G ds vs → ds.length = vs.length
  | [], _, h => by subst h; rfl
  | x :: xs, vs, h => by
    obtain ⟨v, r, e, _, h2⟩ := h
    subst e
    rw [List.length_cons, List.length_cons, RepL.length h2]
theorem RepL.get {G : Gh} : ∀ {ds : List D} {vs : List V} {i : Nat} {d : D}, RepL G ds vs → ds[i]? = some d → ∃ v, vs[i]? = some v ∧ Rep G d v
  | [], _, _, _, _, e => by cases e
  | x :: xs, vs, 0, d, h, e => by
    obtain ⟨v, r, e1, h1, h2⟩ := h
    subst e1
    cases e
    exact ⟨v, rfl, h1⟩
  | x :: xs, vs, i + 1, d, h, e => by
    obtain ⟨v, r, e1, h1, h2⟩ := h
    subst e1
    exact RepL.get (i := i) h2 e
theorem RepL.append {G : Gh} : ∀ {ds es : List D} {vs ws : List V}, RepL G ds vs → RepL G es ws → RepL G (ds ++ es) (vs ++ ws)
  | [], _, _, _, h, k => by subst h; exact k
  | x :: xs, es, vs, ws, h, k => by
    obtain ⟨v, r, e, h1, h2⟩ := h
    subst e
    exact ⟨v, r ++ ws, rfl, h1, RepL.append h2 k⟩
theorem RepL.one {G : Gh} {d : D} {v : V} (h : Rep G d v) : RepL G [d] [v] := ⟨v, [], rfl, h, rfl⟩
theorem RepL.drop {G : Gh} : ∀ {ds : List D} {vs : List V} (n : Nat), RepL G ds vs → RepL G (ds.drop n) (vs.drop n)
  | _, _, 0, h => h
  | [], _, n + 1, h => by subst h; rfl
  | x :: xs, vs, n + 1, h => by
    obtain ⟨v, r, e, h1, h2⟩ := h
    subst e
    exact RepL.drop n h2
theorem RepL.take {G : Gh} : ∀ {ds : List D} {vs : List V} (n : Nat), RepL G ds vs → RepL G (ds.take n) (vs.take n)
  | _, _, 0, h => rfl
  | [], _, n + 1, h => by subst h; rfl
  | x :: xs, vs, n + 1, h => by
    obtain ⟨v, r, e, h1, h2⟩ := h
    subst e
    exact ⟨v, r.take n, rfl, h1, RepL.take n h2⟩
theorem RepL.reverse {G : Gh} : ∀ {ds : List D} {vs : List V}, RepL G ds vs → RepL G ds.reverse vs.reverse
  | [], _, h => by subst h; rfl
  | x :: xs, vs, h => by
    obtain ⟨v, r, e, h1, h2⟩ := h
    subst e
    rw [List.reverse_cons, List.reverse_cons]
    exact (RepL.reverse h2).append (.one h1)
theorem RepL.set {G : Gh} {d : D} {v : V} (h0 : Rep G d v) : ∀ {ds : List D} {vs : List V} (n : Nat), RepL G ds vs → RepL G (ds.set n d) (vs.set n v)
  | [], _, n, h => by subst h; rfl
  | x :: xs, vs, 0, h => by
    obtain ⟨w, r, e, h1, h2⟩ := h
    subst e
    exact ⟨v, r, rfl, h0, h2⟩
  | x :: xs, vs, n + 1, h => by
    obtain ⟨w, r, e, h1, h2⟩ := h
    subst e
    exact ⟨w, r.set n v, rfl, h1, RepL.set h0 n h2⟩
theorem RepL.dropLast {G : Gh} {ds : List D} {vs : List V} (h : RepL G ds vs) : RepL G ds.dropLast vs.dropLast := by
  rw [List.dropLast_eq_take, List.dropLast_eq_take, h.length]
  exact h.take _
theorem RepL.eraseIdx {G : Gh} : ∀ {ds : List D} {vs : List V} (n : Nat), RepL G ds vs → RepL G (ds.eraseIdx n) (vs.eraseIdx n)
  | [], _, n, h => by subst h; rfl
  | x :: xs, vs, 0, h => by
    obtain ⟨w, r, e, h1, h2⟩ := h
    subst e
    exact h2
  | x :: xs, vs, n + 1, h => by
    obtain ⟨w, r, e, h1, h2⟩ := h
    subst e
    exact ⟨w, r.eraseIdx n, rfl, h1, RepL.eraseIdx n h2⟩
theorem RepL.rep {G : Gh} {ds : List D} {vs : List V} (h : RepL G ds vs) : ∀ k : Nat, RepL G (List.replicate k ds).flatten (List.replicate k vs).flatten
  | 0 => rfl
  | k + 1 => by
    rw [List.replicate_succ, List.replicate_succ, List.flatten_cons, List.flatten_cons]
    exact h.append (RepL.rep h k)
theorem RepL.ints {G : Gh} : ∀ (ns : List Int), RepL G (ns.map D.int) (ns.map V.int)
  | [] => rfl
  | n :: ns => ⟨.int n, ns.map V.int, rfl, rfl, RepL.ints ns⟩
theorem RepL.ints_inv {G : Gh} : ∀ {ns : List Int} {vs : List V}, RepL G (ns.map D.int) vs → vs = ns.map V.int
  | [], _, h => h
  | n :: ns, vs, h => by
    obtain ⟨v, r, e, h1, h2⟩ := h
    have h1' : v = .int n := h1
    subst h1'
    rw [e, RepL.ints_inv h2]
    rfl
theorem RepL.bls_inv {G : Gh} : ∀ {ns : List Bool} {vs : List V}, RepL G (ns.map D.bl) vs → vs = ns.map V.bl
  | [], _, h => h
  | n :: ns, vs, h => by
    obtain ⟨v, r, e, h1, h2⟩ := h
    have h1' : v = .bl n := h1
    subst h1'
    rw [e, RepL.bls_inv h2]
    rfl

/-- as read now: a list may still be one's own -/
def RepB (G : Gh) (H : Hp) : D → V → Prop
  | .lst xs, v => ∃ a vs, v = .ref a ∧ H a = some (.lst vs) ∧ ¬ G.isS a ∧ RepL G xs vs
  | .dct ks xs, v => ∃ a o ws, v = .ref a ∧ H a = some o ∧ ¬ G.isS a ∧ DctAt o ks ws ∧ RepL G xs ws
  | d, v => Rep G d v
theorem GRel.noS {G : Gh} {H : Hp} (g : GRel G H) {a : Addr} {o : HO} (h : G.F a = some o) : ¬ G.isS a := by
  rintro ⟨p, hp, e | e⟩
  · rw [e, (g.s p hp).1] at h
    cases h
  · rw [e, (g.s p hp).2.1] at h
    cases h
theorem Rep.b {G : Gh} {H : Hp} (g : GRel G H) : ∀ {d : D} {v : V}, Rep G d v → RepB G H d v
  | .non, _, h => h
  | .bl _, _, h => h
  | .int _, _, h => h
  | .str _, _, h => h
  | .tup xs, v, h => h
  | .lst xs, v, h => by
    obtain ⟨a, vs, e, h1, h2⟩ := h
    exact ⟨a, vs, e, g.f _ _ h1, g.noS h1, h2⟩
  | .src, _, h => h
  | .ty _, _, h => h
  | .dct ks xs, v, h => by
    obtain ⟨a, o, ws, e, h1, h2, h3⟩ := h
    exact ⟨a, o, ws, e, g.f _ _ h1, g.noS h1, h2, h3⟩
theorem RepB.step {G G' : Gh} {H H' : Hp} (s : Step G H G' H') : ∀ {d : D} {v : V}, RepB G H d v → RepB G' H' d v
  | .non, _, h => h
  | .bl _, _, h => h
  | .int _, _, h => h
  | .str _, _, h => h
  | .tup xs, v, h => Rep.mono (d := .tup xs) s.le h
  | .lst xs, v, h => by
    obtain ⟨a, vs, e, h1, h2, h3⟩ := h
    exact ⟨a, vs, e, s.keep _ _ h1 h2, s.nos _ _ h1 h2, h3.mono s.le⟩
  | .src, v, h => Rep.mono (d := .src) s.le h
  | .ty _, _, h => h
  | .dct ks xs, v, h => by
    obtain ⟨a, o, ws, e, h1, h2, h3, h4⟩ := h
    exact ⟨a, o, ws, e, s.keep _ _ h1 h2, s.nos _ _ h1 h2, h3, h4.mono s.le⟩

/-! ### new objects -/
def Gh.put (G : Gh) (p : Addr) (o : HO) : Gh := ⟨upd G.F p o, G.s⟩
theorem SrcOk.upd {H : Hp} {ds cs p : Addr} {o : HO} (h : SrcOk H ds cs) (n1 : ds ≠ p) (n2 : cs ≠ p) : SrcOk (upd H p o) ds cs := by
  obtain ⟨c, l, m, t, h1, h2⟩ := h
  exact ⟨c, l, m, t, by rw [upd_ne n1]; exact h1, by rw [upd_ne n2]; exact h2⟩
theorem SrcOk.ne {H : Hp} {ds cs p : Addr} (h : SrcOk H ds cs) (n : H p = none) : ds ≠ p ∧ cs ≠ p := by
  obtain ⟨c, l, m, t, h1, h2⟩ := h
  exact ⟨ne_of_none h1 n, ne_of_none h2 n⟩
/-- a new object at p, not yet frozen -/
theorem GRel.new {G : Gh} {H : Hp} (g : GRel G H) {p : Addr} {o : HO} (n : H p = none) : GRel G (upd H p o) :=
  ⟨fun b u h => by rw [upd_ne (ne_of_none (g.f b u h) n)]; exact g.f b u h,
   fun q hq => ⟨(g.s q hq).1, (g.s q hq).2.1, (g.s q hq).2.2.1, (g.s q hq).2.2.2.upd ((g.s q hq).2.2.2.ne n).1 ((g.s q hq).2.2.2.ne n).2⟩⟩
theorem Step.new {G : Gh} {H : Hp} {p : Addr} {o : HO} (n : H p = none) : Step G H G (upd H p o) where
  f := Same.refl _
  s := fun _ h => h
  keep := fun b u h _ => by rw [upd_ne (ne_of_none h n)]; exact h
  there := fun b u h => ⟨u, by rw [upd_ne (ne_of_none h n)]; exact h⟩
  nof := fun _ _ _ h => h
  nos := fun _ _ _ h => h
theorem GRel.fnone {G : Gh} {H : Hp} (g : GRel G H) {p : Addr} (n : H p = none) : G.F p = none := by
  cases h : G.F p with
  | none => rfl
  | some o =>
    rw [g.f p o h] at n
    cases n
theorem GRel.snone {G : Gh} {H : Hp} (g : GRel G H) {p : Addr} (n : H p = none) : ¬ G.isS p := by
  rintro ⟨q, hq, e | e⟩
  · exact ((g.s q hq).2.2.2.ne n).1 e.symm
  · exact ((g.s q hq).2.2.2.ne n).2 e.symm
/-- an object that stands is frozen: it was not there at H0 -/
theorem GRel.freeze {G : Gh} {H : Hp} (g : GRel G H) {p : Addr} {o : HO} (h : H p = some o) (nf : G.F p = none) (ns : ¬ G.isS p) : GRel (G.put p o) H :=
  ⟨fun b u hb => by
    by_cases e : b = p
    · subst e
      have hb' : upd G.F b o b = some u := hb
      rw [upd_same] at hb'
      cases hb'
      exact h
    · have hb' : upd G.F p o b = some u := hb
      rw [upd_ne e] at hb'
      exact g.f b u hb',
   fun q hq => by
    have hq' : G.s = some q := hq
    refine ⟨?_, ?_, (g.s q hq').2.2.1, (g.s q hq').2.2.2⟩
    · show upd G.F p o q.1 = none
      rw [upd_ne fun e => ns ⟨q, hq', .inl e.symm⟩]
      exact (g.s q hq').1
    · show upd G.F p o q.2 = none
      rw [upd_ne fun e => ns ⟨q, hq', .inr e.symm⟩]
      exact (g.s q hq').2.1⟩
theorem Gle.put {G : Gh} {p : Addr} {o : HO} (n : G.F p = none) : Gle G (G.put p o) :=
  ⟨fun b u h => by
    show upd G.F p o b = some u
    rw [upd_ne (ne_of_none h n)]
    exact h, fun _ h => h⟩
/-- behind a step, an object that was not there before is frozen -/
theorem Step.put {G G' : Gh} {H H' : Hp} (s : Step G H G' H') {p : Addr} {o : HO} (n : H p = none) (nf : G'.F p = none) : Step G H (G'.put p o) H' where
  f := s.f.trans (Gle.put nf).f
  s := s.s
  keep := s.keep
  there := s.there
  nof := fun b u h h2 => by
    show upd G'.F p o b = none
    rw [upd_ne (ne_of_none h n)]
    exact s.nof b u h h2
  nos := s.nos
/-- a new frozen tuple, list -/
theorem new_tup {G : Gh} {H : Hp} (g : GRel G H) {p : Addr} {ds : List D} {vs : List V} (n : H p = none) (r : RepL G ds vs) :
    Step G H (G.put p (.tup vs)) (upd H p (.tup vs)) ∧ GRel (G.put p (.tup vs)) (upd H p (.tup vs)) ∧ Rep (G.put p (.tup vs)) (.tup ds) (.ref p) :=
  ⟨(Step.new n).put n (g.fnone n), (g.new n).freeze upd_same (g.fnone n) (g.snone n), p, vs, rfl, upd_same, r.mono (Gle.put (g.fnone n))⟩
theorem new_lst {G : Gh} {H : Hp} (g : GRel G H) {p : Addr} {ds : List D} {vs : List V} (n : H p = none) (r : RepL G ds vs) :
    Step G H (G.put p (.lst vs)) (upd H p (.lst vs)) ∧ GRel (G.put p (.lst vs)) (upd H p (.lst vs)) ∧ Rep (G.put p (.lst vs)) (.lst ds) (.ref p) :=
  ⟨(Step.new n).put n (g.fnone n), (g.new n).freeze upd_same (g.fnone n) (g.snone n), p, vs, rfl, upd_same, r.mono (Gle.put (g.fnone n))⟩

/-! ### the names of a def -/
inductive Slot where
  | u | d (x : D) | own (xs : List D)
abbrev En := List Slot
structure Bs where
  G : Gh
  H : Hp
def SlotOk (B : Bs) (G : Gh) (H : Hp) : Slot → Option V → Prop
  | .u, _ => True
  | .d x, o => ∃ v, o = some v ∧ Rep G x v
  | .own xs, o => ∃ a vs, o = some (.ref a) ∧ H a = some (.lst vs) ∧ G.F a = none ∧ ¬ G.isS a ∧ B.H a = none ∧ RepL G xs vs
theorem SlotOk.step {B : Bs} {G G' : Gh} {H H' : Hp} (s : Step G H G' H') : ∀ {sl : Slot} {o : Option V}, SlotOk B G H sl o → SlotOk B G' H' sl o
  | .u, _, _ => trivial
  | .d x, _, ⟨v, e, r⟩ => ⟨v, e, r.mono s.le⟩
  | .own xs, _, ⟨a, vs, e, h1, h2, h3, h4, h5⟩ => ⟨a, vs, e, s.keep _ _ h1 h3, s.nof _ _ h1 h2, s.nos _ _ h1 h3, h4, h5.mono s.le⟩
structure Rel (B : Bs) (G : Gh) (en : En) (σ : L2.St) (H : Hp) : Prop where
  g : GRel G H
  st : Step B.G B.H G H
  len : en.length = σ.length
  sl : ∀ (i : Nat) (s : Slot), en[i]? = some s → ∃ o, σ[i]? = some o ∧ SlotOk B G H s o
  dis : ∀ (i j : Nat) (xs ys : List D) (a : Addr), en[i]? = some (.own xs) → en[j]? = some (.own ys) → σ[i]? = some (some (V.ref a)) → σ[j]? = some (some (V.ref a)) → i = j
theorem Rel.step {B : Bs} {G G' : Gh} {en : En} {σ : L2.St} {H H' : Hp} (r : Rel B G en σ H) (s : Step G H G' H') (g : GRel G' H') : Rel B G' en σ H' where
  g := g
  st := r.st.trans s
  len := r.len
  sl := fun i x h => let ⟨o, h1, h2⟩ := r.sl i x h; ⟨o, h1, h2.step s⟩
  dis := r.dis
end DL

set_option Elab.async false
set_option linter.all false
set_option maxRecDepth 100000
namespace DL
open PySem PySem.Spec PyProof.Rows L2
abbrev Frg := PySem.W.Frag
abbrev M (α : Type) := En → (α → Prop) → Prop

def RepBL (G : Gh) (H : Hp) : List D → List V → Prop
  | [], vs => vs = []
  | x :: xs, vs => ∃ v r, vs = v :: r ∧ RepB G H x v ∧ RepBL G H xs r
theorem RepBL.step {G G' : Gh} {H H' : Hp} (s : Step G H G' H') : ∀ {ds : List D} {vs : List V}, RepBL G H ds vs → RepBL G' H' ds vs
  | [], _, h => h
  | x :: xs, vs, h => by
    obtain ⟨v, r, e, h1, h2⟩ := h
    exact ⟨v, r, e, h1.step s, RepBL.step s h2⟩

/-! ### what a reading gives, as data -/
def Sem (t : TE) (m : M D) : Prop := ∀ (B : Bs) (G : Gh) (en : En) (σ : L2.St) (H : Hp) (Q : D → Prop) (k : VK), Rel B G en σ H → m en Q →
  (∀ v H' G' d, Step G H G' H' → GRel G' H' → Rep G' d v → Q d → k v H') → t σ H k
def SemB (t : TE) (m : M D) : Prop := ∀ (B : Bs) (G : Gh) (en : En) (σ : L2.St) (H : Hp) (Q : D → Prop) (k : VK), Rel B G en σ H → m en Q →
  (∀ v H' G' d, Step G H G' H' → GRel G' H' → RepB G' H' d v → Q d → k v H') → t σ H k
def SemF (t : TE) (m : M (List D)) : Prop := ∀ (B : Bs) (G : Gh) (en : En) (σ : L2.St) (H : Hp) (Q : List D → Prop) (k : VK), Rel B G en σ H → m en Q →
  (∀ a vs H' G' xs, Step G H G' H' → GRel G' H' → H a = none → H' a = some (.lst vs) → G'.F a = none → ¬ G'.isS a → RepL G' xs vs → Q xs → k (.ref a) H') → t σ H k
def SemT (t : TT) (m : M Bool) : Prop := ∀ (B : Bs) (G : Gh) (en : En) (σ : L2.St) (H : Hp) (Q : Bool → Prop) (k : Bool → Hp → Prop), Rel B G en σ H → m en Q →
  (∀ b H' G', Step G H G' H' → GRel G' H' → Q b → k b H') → t σ H k
def SemA (t : TA) (m : M (List D)) : Prop := ∀ (B : Bs) (G : Gh) (en : En) (σ : L2.St) (H : Hp) (Q : List D → Prop) (k : List V → Hp → Prop), Rel B G en σ H → m en Q →
  (∀ vs H' G' ds, Step G H G' H' → GRel G' H' → RepL G' ds vs → Q ds → k vs H') → t σ H k
def SemAB (t : TA) (m : M (List D)) : Prop := ∀ (B : Bs) (G : Gh) (en : En) (σ : L2.St) (H : Hp) (Q : List D → Prop) (k : List V → Hp → Prop), Rel B G en σ H → m en Q →
  (∀ vs H' G' ds, Step G H G' H' → GRel G' H' → RepBL G' H' ds vs → Q ds → k vs H') → t σ H k

section
variable {ι : Type}
structure PD (X : ι → Cx) (e : Expr) (m : M D) : Prop where
  ex : ∃ t, (∀ i, PE (X i) e t) ∧ Sem t m
structure PB (X : ι → Cx) (e : Expr) (m : M D) : Prop where
  ex : ∃ t, (∀ i, PE (X i) e t) ∧ SemB t m
structure PF (X : ι → Cx) (e : Expr) (m : M (List D)) : Prop where
  ex : ∃ t, (∀ i, PE (X i) e t) ∧ SemF t m
structure PTd (X : ι → Cx) (e : Expr) (m : M Bool) : Prop where
  ex : ∃ t, (∀ i, PT (X i) e t) ∧ SemT t m
structure PWd (X : ι → Cx) (e : Expr) (m : M Bool) : Prop where
  ex : ∃ t, (∀ i, PW (X i) e t) ∧ SemT t m
structure PAd (X : ι → Cx) (es : List Expr) (m : M (List D)) : Prop where
  ex : ∃ t, (∀ i, PA (X i) es t) ∧ SemA t m
structure PAB (X : ι → Cx) (es : List Expr) (m : M (List D)) : Prop where
  ex : ∃ t, (∀ i, PA (X i) es t) ∧ SemAB t m
variable {X : ι → Cx} {e a b c : Expr} {es : List Expr} {m ma mb mc : M D} {pos : Pos}

theorem PD.br (h : PD X e m) : PB X e m := by
  obtain ⟨t, h1, h2⟩ := h.ex
  exact ⟨t, h1, fun B G en σ H Q k r q c => h2 B G en σ H Q k r q fun v H' G' d s g rp q => c v H' G' d s g (rp.b g) q⟩
/-- a new list, from now on for ever -/
def mL (m : M (List D)) : M D := fun en Q => m en fun xs => Q (.lst xs)
theorem PF.d {m : M (List D)} (h : PF X e m) : PD X e (mL m) := by
  obtain ⟨t, h1, h2⟩ := h.ex
  refine ⟨t, h1, fun B G en σ H Q k r q c => h2 B G en σ H _ k r q fun a vs H' G' xs s g n ha nf ns rp q => ?_⟩
  exact c _ H' (G'.put a (.lst vs)) (.lst xs) (s.put n nf) (g.freeze ha nf ns) ⟨a, vs, rfl, upd_same, rp.mono (Gle.put nf)⟩ q
theorem PF.br {m : M (List D)} (h : PF X e m) : PB X e (mL m) := h.d.br

/-! ### names, constants -/
def gV (i : Nat) : M D := fun en Q => match en[i]? with
  | some (.d x) => Q x
  | some (.own xs) => Q (.lst xs)
  | _ => False
def gD (i : Nat) : M D := fun en Q => match en[i]? with
  | some (.d x) => Q x
  | _ => False
theorem pb_var {i : Nat} {x : Str} (hN : ∀ j, (X j).N[i]? = some x) (hv : ∀ j, Vis (X j).env.scope x) (hd : (x == ("__debug__" : Str)) = false := by decide)
    (hcd : (x == ("__classdict__" : Str)) = false := by decide) : PB X (.Name x pos) (gV i) := by
  refine ⟨tVar i, fun j => pe_var (hN j) (hv j) hd hcd, fun B G en σ H Q k r q c => ?_⟩
  unfold gV at q
  split at q
  · rename_i d he
    obtain ⟨o, ho, v, hv, rp⟩ := r.sl i _ he
    subst hv
    exact ⟨v, ho, c v H G d (Step.refl _ _) r.g (rp.b r.g) q⟩
  · rename_i xs he
    obtain ⟨o, ho, a, vs, hv, h1, h2, h3, h4, h5⟩ := r.sl i _ he
    subst hv
    exact ⟨.ref a, ho, c _ H G (.lst xs) (Step.refl _ _) r.g ⟨a, vs, rfl, h1, h3, h5⟩ q⟩
  · exact q.elim
theorem pd_var {i : Nat} {x : Str} (hN : ∀ j, (X j).N[i]? = some x) (hv : ∀ j, Vis (X j).env.scope x) (hd : (x == ("__debug__" : Str)) = false := by decide)
    (hcd : (x == ("__classdict__" : Str)) = false := by decide) : PD X (.Name x pos) (gD i) := by
  refine ⟨tVar i, fun j => pe_var (hN j) (hv j) hd hcd, fun B G en σ H Q k r q c => ?_⟩
  unfold gD at q
  split at q
  · rename_i d he
    obtain ⟨o, ho, v, hv, rp⟩ := r.sl i _ he
    subst hv
    exact ⟨v, ho, c v H G d (Step.refl _ _) r.g rp q⟩
  · exact q.elim
def mC (d : D) : M D := fun _ Q => Q d
theorem sem_c {v : V} {d : D} (h : ∀ G, Rep G d v) : Sem (tC v) (mC d) := fun B G en σ H Q k r q c => c v H G d (Step.refl _ _) r.g (h G) q
theorem pd_int {i : Int} {j : Nat} : PD X (.Constant (.int i) j pos) (mC (.int i)) := ⟨_, fun _ => pe_int, sem_c fun _ => rfl⟩
theorem pd_bl {i : Bool} {j : Nat} : PD X (.Constant (.bool i) j pos) (mC (.bl i)) := ⟨_, fun _ => pe_bl, sem_c fun _ => rfl⟩
theorem pd_non {j : Nat} : PD X (.Constant .none j pos) (mC .non) := ⟨_, fun _ => pe_non, sem_c fun _ => rfl⟩
theorem pd_str {x : Str} {j : Nat} : PD X (.Constant (.str x) j pos) (mC (.str x)) := ⟨_, fun _ => pe_str, sem_c fun _ => rfl⟩

/-! ### operators by values -/
def OpS (r : R2) (m : D → D → (D → Prop) → Prop) : Prop := ∀ (G : Gh) (H : Hp) (x y : V) (dx dy : D) (Q : D → Prop) (k : VK), GRel G H → RepB G H dx x → RepB G H dy y → m dx dy Q →
  (∀ v H' G' d, Step G H G' H' → GRel G' H' → Rep G' d v → Q d → k v H') → r x y H k
def m2 (m : D → D → (D → Prop) → Prop) (ma mb : M D) : M D := fun en Q => ma en fun x => mb en fun y => m x y Q
theorem sem_op {r : R2} {m : D → D → (D → Prop) → Prop} {ta tb : TE} (hs : OpS r m) (ha : SemB ta ma) (hb : SemB tb mb) : Sem (tOp r ta tb) (m2 m ma mb) := fun B G en σ H Q k rl q c =>
  ha B G en σ H _ _ rl q fun x H1 G1 dx s1 g1 r1 q1 => hb B G1 en σ H1 _ _ (rl.step s1 g1) q1 fun y H2 G2 dy s2 g2 r2 q2 =>
    hs G2 H2 x y dx dy Q k g2 (r1.step s2) r2 q2 fun v H3 G3 d s3 g3 r3 q3 => c v H3 G3 d ((s1.trans s2).trans s3) g3 r3 q3
theorem pd_op {op : Operator} {r : R2} {m : D → D → (D → Prop) → Prop} (ho : ∀ i, OpR (X i) (binaryOp op) r) (hs : OpS r m) (ha : PB X a ma) (hb : PB X b mb) : PD X (.BinOp a op b pos) (m2 m ma mb) := by
  obtain ⟨ta, h1, h2⟩ := ha.ex
  obtain ⟨tb, h3, h4⟩ := hb.ex
  exact ⟨_, fun i => pe_op (ho i) (h1 i) (h3 i), sem_op hs h2 h4⟩
theorem pd_cmp {op : CmpOp} {r : R2} {m : D → D → (D → Prop) → Prop} (ho : ∀ i, OpR (X i) (compareOp op) r) (hs : OpS r m) (ha : PB X a ma) (hb : PB X b mb) (hm : behindInMarks op b = false) : PD X (.Compare a [op] [b] pos) (m2 m ma mb) := by
  obtain ⟨ta, h1, h2⟩ := ha.ex
  obtain ⟨tb, h3, h4⟩ := hb.ex
  exact ⟨_, fun i => pe_cmpR (ho i) (h1 i) (h3 i) hm, sem_op hs h2 h4⟩
/-- a reading that gives True or False, as a test -/
def mT (m : M D) : M Bool := fun en Q => m en fun d => match d with | .bl b => Q b | _ => False
theorem semt_of {t : TE} (h : Sem t m) : SemT (tTest t) (mT m) := fun B G en σ H Q k rl q c => h B G en σ H _ _ rl q fun v H' G' d s g r q => by
  cases d with
  | bl b => exact ⟨b, r, c b H' G' s g q⟩
  | _ => exact False.elim q
theorem ptd_cmp {op : CmpOp} {r : R2} {m : D → D → (D → Prop) → Prop} (ho : ∀ i, OpR (X i) (compareOp op) r) (hs : OpS r m) (ha : PB X a ma) (hb : PB X b mb) (hm : behindInMarks op b = false) : PTd X (.Compare a [op] [b] pos) (mT (m2 m ma mb)) := by
  obtain ⟨ta, h1, h2⟩ := ha.ex
  obtain ⟨tb, h3, h4⟩ := hb.ex
  exact ⟨_, fun i => pt_cmpR (ho i) (h1 i) (h3 i) hm, semt_of (sem_op hs h2 h4)⟩
/-- an expression (no comparison) that gives True or False, as a test -/
theorem ptd_val (h : PD X e m) (he : ∀ i whole, isTrue e (X i).env whole = (do let v ← whole; standAt e.pos; holding [v] (truthy v))) : PTd X e (mT m) := by
  obtain ⟨t, h1, h2⟩ := h.ex
  exact ⟨_, fun i => pt_val (h1 i) (he i), semt_of h2⟩
/-- a op b op' c -/
def mChain (m m' : D → D → (D → Prop) → Prop) (ma mb mc : M D) : M D := fun en Q => ma en fun x => mb en fun y => m x y fun z => match z with
  | .bl k => if k = true then mc en fun w => m' y w Q else Q (.bl false)
  | _ => False
theorem sem_chain {r r' : R2} {m m' : D → D → (D → Prop) → Prop} {ta tb tc : TE} (hs : OpS r m) (hs' : OpS r' m') (ha : SemB ta ma) (hb : SemB tb mb) (hc : SemB tc mc) : Sem (tChain r r' ta tb tc) (mChain m m' ma mb mc) := fun B G en σ H Q k rl q c =>
  ha B G en σ H _ _ rl q fun x H1 G1 dx s1 g1 r1 q1 => hb B G1 en σ H1 _ _ (rl.step s1 g1) q1 fun y H2 G2 dy s2 g2 r2 q2 =>
    hs G2 H2 x y dx dy _ _ g2 (r1.step s2) r2 q2 fun v H3 G3 d s3 g3 r3 q3 => by
      have s13 := (s1.trans s2).trans s3
      cases d with
      | bl b =>
        refine ⟨b, r3, ?_⟩
        cases b with
        | true =>
          rw [if_pos rfl]
          have q3' : mc en fun w => m' dy w Q := q3
          exact hc B G3 en σ H3 _ _ (rl.step s13 g3) q3' fun w H4 G4 dw s4 g4 r4 q4 =>
            hs' G4 H4 y w dy dw Q k g4 ((r2.step s3).step s4) r4 q4 fun v H5 G5 d s5 g5 r5 q5 => c v H5 G5 d ((s13.trans s4).trans s5) g5 r5 q5
        | false =>
          rw [if_neg (by decide)]
          exact c _ H3 G3 (.bl false) s13 g3 rfl q3
      | _ => exact False.elim q3
theorem pd_chain {op op' : CmpOp} {r r' : R2} {m m' : D → D → (D → Prop) → Prop} (ho : ∀ i, OpR (X i) (compareOp op) r) (ho' : ∀ i, OpR (X i) (compareOp op') r') (hs : OpS r m) (hs' : OpS r' m') (ha : PB X a ma) (hb : PB X b mb) (hc : PB X c mc)
    (hm : lastMarks [op, op'] [b, c] = false) : PD X (.Compare a [op, op'] [b, c] pos) (mChain m m' ma mb mc) := by
  obtain ⟨ta, h1, h2⟩ := ha.ex
  obtain ⟨tb, h3, h4⟩ := hb.ex
  obtain ⟨tc, h5, h6⟩ := hc.ex
  exact ⟨_, fun i => pe_chain (ho i) (ho' i) (h1 i) (h3 i) (h5 i) hm, sem_chain hs hs' h2 h4 h6⟩
theorem ptd_chain {op op' : CmpOp} {r r' : R2} {m m' : D → D → (D → Prop) → Prop} (ho : ∀ i, OpR (X i) (compareOp op) r) (ho' : ∀ i, OpR (X i) (compareOp op') r') (hs : OpS r m) (hs' : OpS r' m') (ha : PB X a ma) (hb : PB X b mb) (hc : PB X c mc)
    (hm : lastMarks [op, op'] [b, c] = false) : PTd X (.Compare a [op, op'] [b, c] pos) (mT (mChain m m' ma mb mc)) := by
  obtain ⟨ta, h1, h2⟩ := ha.ex
  obtain ⟨tb, h3, h4⟩ := hb.ex
  obtain ⟨tc, h5, h6⟩ := hc.ex
  exact ⟨_, fun i => pt_chain (ho i) (ho' i) (h1 i) (h3 i) (h5 i) hm, semt_of (sem_chain hs hs' h2 h4 h6)⟩
def UnS (r : V → Hp → VK → Prop) (m : D → (D → Prop) → Prop) : Prop := ∀ (G : Gh) (H : Hp) (x : V) (dx : D) (Q : D → Prop) (k : VK), GRel G H → RepB G H dx x → m dx Q →
  (∀ v H' G' d, Step G H G' H' → GRel G' H' → Rep G' d v → Q d → k v H') → r x H k
def m1 (m : D → (D → Prop) → Prop) (ma : M D) : M D := fun en Q => ma en fun x => m x Q
theorem pd_un {op : UnaryOp} {r : V → Hp → VK → Prop} {m : D → (D → Prop) → Prop} (ho : ∀ i, UnR (X i) (unaryOp op) r) (hs : UnS r m) (ha : PB X a ma) : PD X (.UnaryOp op a pos) (m1 m ma) := by
  obtain ⟨ta, h1, h2⟩ := ha.ex
  exact ⟨_, fun i => pe_un (ho i) (h1 i), fun B G en σ H Q k rl q c => h2 B G en σ H _ _ rl q fun x H1 G1 dx s1 g1 r1 q1 => hs G1 H1 x dx Q k g1 r1 q1 fun v H3 G3 d s3 g3 r3 q3 => c v H3 G3 d (s1.trans s3) g3 r3 q3⟩

/-! ### and, or, not; a if t else b -/
variable {mt mu : M Bool} {rest : List Expr}
def mAnd (t u : M Bool) : M Bool := fun en Q => t en fun c => if c = true then u en Q else Q false
def mOr (t u : M Bool) : M Bool := fun en Q => t en fun c => if c = true then Q true else u en Q
def mNot (t : M Bool) : M Bool := fun en Q => t en fun c => Q (!c)
theorem PWd.t (h : PWd X e mt) : PTd X e mt := by
  obtain ⟨t, h1, h2⟩ := h.ex
  exact ⟨t, fun i => (h1 i).pt, h2⟩
theorem pwd_and1 (h : PTd X a mt) : PWd X (.BoolOp .And [a] pos) mt := by
  obtain ⟨t, h1, h2⟩ := h.ex
  exact ⟨t, fun i => pw_and1 (h1 i), h2⟩
theorem pwd_or1 (h : PTd X a mt) : PWd X (.BoolOp .Or [a] pos) mt := by
  obtain ⟨t, h1, h2⟩ := h.ex
  exact ⟨t, fun i => pw_or1 (h1 i), h2⟩
theorem semt_and {t u : TT} (h2 : SemT t mt) (h4 : SemT u mu) : SemT (tAnd t u) (mAnd mt mu) := fun B G en σ H Q k rl q c => h2 B G en σ H _ _ rl q fun b H1 G1 s1 g1 q1 => by
  cases b with
  | true =>
    rw [if_pos rfl]
    have q1' : mu en Q := q1
    exact h4 B G1 en σ H1 Q k (rl.step s1 g1) q1' fun b H2 G2 s2 g2 q2 => c b H2 G2 (s1.trans s2) g2 q2
  | false =>
    rw [if_neg (by decide)]
    exact c false H1 G1 s1 g1 q1
theorem semt_or {t u : TT} (h2 : SemT t mt) (h4 : SemT u mu) : SemT (tOr t u) (mOr mt mu) := fun B G en σ H Q k rl q c => h2 B G en σ H _ _ rl q fun b H1 G1 s1 g1 q1 => by
  cases b with
  | true =>
    rw [if_pos rfl]
    exact c true H1 G1 s1 g1 q1
  | false =>
    rw [if_neg (by decide)]
    have q1' : mu en Q := q1
    exact h4 B G1 en σ H1 Q k (rl.step s1 g1) q1' fun b H2 G2 s2 g2 q2 => c b H2 G2 (s1.trans s2) g2 q2
theorem pwd_and (ha : PTd X a mt) (hb : PWd X (.BoolOp .And (b :: rest) pos) mu) : PWd X (.BoolOp .And (a :: b :: rest) pos) (mAnd mt mu) := by
  obtain ⟨t, h1, h2⟩ := ha.ex
  obtain ⟨u, h3, h4⟩ := hb.ex
  exact ⟨_, fun i => pw_and (h1 i) (h3 i), semt_and h2 h4⟩
theorem pwd_or (ha : PTd X a mt) (hb : PWd X (.BoolOp .Or (b :: rest) pos) mu) : PWd X (.BoolOp .Or (a :: b :: rest) pos) (mOr mt mu) := by
  obtain ⟨t, h1, h2⟩ := ha.ex
  obtain ⟨u, h3, h4⟩ := hb.ex
  exact ⟨_, fun i => pw_or (h1 i) (h3 i), semt_or h2 h4⟩
theorem ptd_not (ha : PTd X a mt) : PTd X (.UnaryOp .Not a pos) (mNot mt) := by
  obtain ⟨t, h1, h2⟩ := ha.ex
  exact ⟨_, fun i => pt_not (h1 i), fun B G en σ H Q k rl q c => h2 B G en σ H _ _ rl q fun b H1 G1 s1 g1 q1 => c _ H1 G1 s1 g1 q1⟩
/-- as values (truth values) -/
def mAndV (ma mb : M D) : M D := fun en Q => ma en fun x => match x with
  | .bl c => if c = true then mb en Q else Q (.bl false)
  | _ => False
def mOrV (ma mb : M D) : M D := fun en Q => ma en fun x => match x with
  | .bl c => if c = true then Q (.bl true) else mb en Q
  | _ => False
def mNotV (ma : M D) : M D := fun en Q => ma en fun x => match x with
  | .bl c => Q (.bl (!c))
  | _ => False
theorem pd_one {op : BoolOp} (h : PD X a ma) : PD X (.BoolOp op [a] pos) ma := by
  obtain ⟨t, h1, h2⟩ := h.ex
  exact ⟨t, fun i => pe_one (h1 i), h2⟩
theorem pd_and (ha : PD X a ma) (hb : PD X (.BoolOp .And (b :: rest) pos) mb) : PD X (.BoolOp .And (a :: b :: rest) pos) (mAndV ma mb) := by
  obtain ⟨t, h1, h2⟩ := ha.ex
  obtain ⟨u, h3, h4⟩ := hb.ex
  refine ⟨_, fun i => pe_and (h1 i) (h3 i), fun B G en σ H Q k rl q c => h2 B G en σ H _ _ rl q fun v H1 G1 d s1 g1 r1 q1 => ?_⟩
  cases d with
  | bl b =>
    refine ⟨b, r1, ?_⟩
    cases b with
    | true =>
      rw [if_pos rfl]
      have q1' : mb en Q := q1
      exact h4 B G1 en σ H1 Q k (rl.step s1 g1) q1' fun v H2 G2 d s2 g2 r2 q2 => c v H2 G2 d (s1.trans s2) g2 r2 q2
    | false =>
      rw [if_neg (by decide)]
      exact c _ H1 G1 (.bl false) s1 g1 rfl q1
  | _ => exact False.elim q1
theorem pd_or (ha : PD X a ma) (hb : PD X (.BoolOp .Or (b :: rest) pos) mb) : PD X (.BoolOp .Or (a :: b :: rest) pos) (mOrV ma mb) := by
  obtain ⟨t, h1, h2⟩ := ha.ex
  obtain ⟨u, h3, h4⟩ := hb.ex
  refine ⟨_, fun i => pe_or (h1 i) (h3 i), fun B G en σ H Q k rl q c => h2 B G en σ H _ _ rl q fun v H1 G1 d s1 g1 r1 q1 => ?_⟩
  cases d with
  | bl b =>
    refine ⟨b, r1, ?_⟩
    cases b with
    | true =>
      rw [if_pos rfl]
      exact c _ H1 G1 (.bl true) s1 g1 rfl q1
    | false =>
      rw [if_neg (by decide)]
      have q1' : mb en Q := q1
      exact h4 B G1 en σ H1 Q k (rl.step s1 g1) q1' fun v H2 G2 d s2 g2 r2 q2 => c v H2 G2 d (s1.trans s2) g2 r2 q2
  | _ => exact False.elim q1
theorem pd_not (ha : PD X a ma) : PD X (.UnaryOp .Not a pos) (mNotV ma) := by
  obtain ⟨t, h1, h2⟩ := ha.ex
  refine ⟨_, fun i => pe_not (h1 i), fun B G en σ H Q k rl q c => h2 B G en σ H _ _ rl q fun v H1 G1 d s1 g1 r1 q1 => ?_⟩
  cases d with
  | bl b => exact ⟨b, r1, c _ H1 G1 (.bl (!b)) s1 g1 rfl q1⟩
  | _ => exact False.elim q1
def mIte {α : Type} (t : M Bool) (ma mb : M α) : M α := fun en Q => t en fun c => if c = true then ma en Q else mb en Q
theorem pd_if (hc : PTd X c mt) (ha : PD X a ma) (hb : PD X b mb) : PD X (.IfExp c a b pos) (mIte mt ma mb) := by
  obtain ⟨t, h1, h2⟩ := hc.ex
  obtain ⟨u, h3, h4⟩ := ha.ex
  obtain ⟨w, h5, h6⟩ := hb.ex
  refine ⟨_, fun i => pe_ifExp (h1 i) (h3 i) (h5 i), fun B G en σ H Q k rl q c => h2 B G en σ H _ _ rl q fun z H1 G1 s1 g1 q1 => ?_⟩
  cases z with
  | true =>
    rw [if_pos rfl]
    have q1' : ma en Q := q1
    exact h4 B G1 en σ H1 Q k (rl.step s1 g1) q1' fun v H2 G2 d s2 g2 r2 q2 => c v H2 G2 d (s1.trans s2) g2 r2 q2
  | false =>
    rw [if_neg (by decide)]
    have q1' : mb en Q := q1
    exact h6 B G1 en σ H1 Q k (rl.step s1 g1) q1' fun v H2 G2 d s2 g2 r2 q2 => c v H2 G2 d (s1.trans s2) g2 r2 q2
theorem pf_if {xa xb : M (List D)} (hc : PTd X c mt) (ha : PF X a xa) (hb : PF X b xb) : PF X (.IfExp c a b pos) (mIte mt xa xb) := by
  obtain ⟨t, h1, h2⟩ := hc.ex
  obtain ⟨u, h3, h4⟩ := ha.ex
  obtain ⟨w, h5, h6⟩ := hb.ex
  have back : ∀ {H1 H : Hp} {G G1 : Gh} {x : Addr}, Step G H G1 H1 → H1 x = none → H x = none := fun {H1 H G G1 x} s n => by
    cases hx : H x with
    | none => rfl
    | some o =>
      obtain ⟨o', h'⟩ := s.there x o hx
      rw [n] at h'
      cases h'
  refine ⟨_, fun i => pe_ifExp (h1 i) (h3 i) (h5 i), fun B G en σ H Q k rl q c => h2 B G en σ H _ _ rl q fun z H1 G1 s1 g1 q1 => ?_⟩
  cases z with
  | true =>
    rw [if_pos rfl]
    have q1' : xa en Q := q1
    exact h4 B G1 en σ H1 Q k (rl.step s1 g1) q1' fun x vs H2 G2 xs s2 g2 n n2 n3 n4 r2 q2 => c x vs H2 G2 xs (s1.trans s2) g2 (back s1 n) n2 n3 n4 r2 q2
  | false =>
    rw [if_neg (by decide)]
    have q1' : xb en Q := q1
    exact h6 B G1 en σ H1 Q k (rl.step s1 g1) q1' fun x vs H2 G2 xs s2 g2 n n2 n3 n4 r2 q2 => c x vs H2 G2 xs (s1.trans s2) g2 (back s1 n) n2 n3 n4 r2 q2

/-! ### argument lists, displays -/
def aN : M (List D) := fun _ Q => Q []
def aC (m : M D) (r : M (List D)) : M (List D) := fun en Q => m en fun x => r en fun xs => Q (x :: xs)
variable {mr : M (List D)}
theorem pad_nil : PAd X [] aN := ⟨_, fun _ => pa_nil, fun B G en σ H Q k rl q c => c [] H G [] (Step.refl _ _) rl.g rfl q⟩
theorem pab_nil : PAB X [] aN := ⟨_, fun _ => pa_nil, fun B G en σ H Q k rl q c => c [] H G [] (Step.refl _ _) rl.g rfl q⟩
theorem pad_cons (ha : PD X e m) (hr : PAd X es mr) (hs : ∀ i, starEach (e :: es) (X i).env = (false, eval e (X i).env) :: starEach es (X i).env := by intro _; rfl) : PAd X (e :: es) (aC m mr) := by
  obtain ⟨t, h1, h2⟩ := ha.ex
  obtain ⟨u, h3, h4⟩ := hr.ex
  refine ⟨_, fun i => pa_cons (h1 i) (h3 i) (hs i), fun B G en σ H Q k rl q c => h2 B G en σ H _ _ rl q fun v H1 G1 d s1 g1 r1 q1 => h4 B G1 en σ H1 _ _ (rl.step s1 g1) q1 fun vs H2 G2 ds s2 g2 r2 q2 => ?_⟩
  exact c (v :: vs) H2 G2 (d :: ds) (s1.trans s2) g2 ⟨v, vs, rfl, r1.mono s2.le, r2⟩ q2
theorem pab_cons (ha : PB X e m) (hr : PAB X es mr) (hs : ∀ i, starEach (e :: es) (X i).env = (false, eval e (X i).env) :: starEach es (X i).env := by intro _; rfl) : PAB X (e :: es) (aC m mr) := by
  obtain ⟨t, h1, h2⟩ := ha.ex
  obtain ⟨u, h3, h4⟩ := hr.ex
  refine ⟨_, fun i => pa_cons (h1 i) (h3 i) (hs i), fun B G en σ H Q k rl q c => h2 B G en σ H _ _ rl q fun v H1 G1 d s1 g1 r1 q1 => h4 B G1 en σ H1 _ _ (rl.step s1 g1) q1 fun vs H2 G2 ds s2 g2 r2 q2 => ?_⟩
  exact c (v :: vs) H2 G2 (d :: ds) (s1.trans s2) g2 ⟨v, vs, rfl, r1.step s2, r2⟩ q2
/-- *e, .. -/
def aS (m : M D) (r : M (List D)) : M (List D) := fun en Q => m en fun x => match x with
  | .tup ys => r en fun xs => Q (ys ++ xs)
  | .lst ys => r en fun xs => Q (ys ++ xs)
  | _ => False
def mTup (m : M (List D)) : M D := fun en Q => m en fun xs => xs.length ≤ sizeLine ∧ Q (.tup xs)
def mLst (m : M (List D)) : M (List D) := fun en Q => m en fun xs => xs.length ≤ sizeLine ∧ Q xs
theorem there_none {G G' : Gh} {H H' : Hp} (s : Step G H G' H') {x : Addr} (n : H' x = none) : H x = none := by
  cases hx : H x with
  | none => rfl
  | some o =>
    obtain ⟨o', h'⟩ := s.there x o hx
    rw [n] at h'
    cases h'
theorem pd_tup {k : Nat} (h : PAd X es mr) : PD X (.Tuple es k pos) (mTup mr) := by
  obtain ⟨t, h1, h2⟩ := h.ex
  refine ⟨_, fun i => pe_tup (h1 i), fun B G en σ H Q k rl q c => h2 B G en σ H _ _ rl q fun vs H1 G1 ds s1 g1 r1 q1 => ?_⟩
  refine ⟨by rw [← r1.length]; exact q1.1, fun p n => ?_⟩
  obtain ⟨s2, g2, r2⟩ := new_tup g1 n r1
  exact c _ _ _ _ (s1.trans s2) g2 r2 q1.2
theorem pf_lst (h : PAd X es mr) : PF X (.List es pos) (mLst mr) := by
  obtain ⟨t, h1, h2⟩ := h.ex
  refine ⟨_, fun i => pe_lst (h1 i), fun B G en σ H Q k rl q c => h2 B G en σ H _ _ rl q fun vs H1 G1 ds s1 g1 r1 q1 => ?_⟩
  refine ⟨by rw [← r1.length]; exact q1.1, fun p n => ?_⟩
  exact c p vs _ G1 ds (s1.trans (Step.new n)) (g1.new n) (there_none s1 n) upd_same (g1.fnone n) (g1.snone n) r1 q1.2

/-! ### calls of built-ins by values -/
def CallS (r : List V → Hp → VK → Prop) (m : List D → (D → Prop) → Prop) : Prop := ∀ (G : Gh) (H : Hp) (vs : List V) (ds : List D) (Q : D → Prop) (k : VK), GRel G H → RepBL G H ds vs → m ds Q →
  (∀ v H' G' d, Step G H G' H' → GRel G' H' → Rep G' d v → Q d → k v H') → r vs H k
def CallF (r : List V → Hp → VK → Prop) (m : List D → (List D → Prop) → Prop) : Prop := ∀ (G : Gh) (H : Hp) (vs : List V) (ds : List D) (Q : List D → Prop) (k : VK), GRel G H → RepBL G H ds vs → m ds Q →
  (∀ a vs H' G' xs, Step G H G' H' → GRel G' H' → H a = none → H' a = some (.lst vs) → G'.F a = none → ¬ G'.isS a → RepL G' xs vs → Q xs → k (.ref a) H') → r vs H k
def mCall {α : Type} (f : List D → (α → Prop) → Prop) (m : M (List D)) : M α := fun en Q => m en fun ds => f ds Q
theorem sem_cb {r : List V → Hp → VK → Prop} {f : List D → (D → Prop) → Prop} {t : TA} (hs : CallS r f) (h2 : SemAB t mr) : Sem (tCB r t) (mCall f mr) := fun B G en σ H Q k rl q c =>
  h2 B G en σ H _ _ rl q fun vs H1 G1 ds s1 g1 r1 q1 => hs G1 H1 vs ds Q k g1 r1 q1 fun v H2 G2 d s2 g2 r2 q2 => c v H2 G2 d (s1.trans s2) g2 r2 q2
theorem semf_cb {r : List V → Hp → VK → Prop} {f : List D → (List D → Prop) → Prop} {t : TA} (hs : CallF r f) (h2 : SemAB t mr) : SemF (tCB r t) (mCall f mr) := fun B G en σ H Q k rl q c =>
  h2 B G en σ H _ _ rl q fun vs H1 G1 ds s1 g1 r1 q1 => hs G1 H1 vs ds Q k g1 r1 q1 fun a vs H2 G2 d s2 g2 n n2 n3 n4 r2 q2 => c a vs H2 G2 d (s1.trans s2) g2 (there_none s1 n) n2 n3 n4 r2 q2
section
variable {x : Str} {p : Pos} {id T : String} {r : List V → Hp → VK → Prop}
theorem pd_callB {f : List D → (D → Prop) → Prop} (hc : ∀ i, CallR (X i) (.builtin id) r) (hs : CallS r f) (hg : ∀ i, Gl (X i) x) (hm : ∀ i, (X i).mg x = none) (hv : bootBuiltins x = some (.builtin id)) (ha : PAB X (e :: es) mr)
    (hn : x ≠ "__name__" := by decide) (hdb : (x == ("__debug__" : Str)) = false := by decide) (he : ∀ i, starEach (e :: es) (X i).env = (false, eval e (X i).env) :: starEach es (X i).env := by intro _; rfl)
    (hpl : ∀ i, (backTo pos (starEach es (X i).env)).any (·.1) = false := by intro _; rfl) : PD X (.Call (.Name x p) (e :: es) [] pos) (mCall f mr) := by
  obtain ⟨t, h1, h2⟩ := ha.ex
  exact ⟨_, fun i => pe_callB (hc i) (hg i) (hm i) hv (h1 i) hn hdb (he i) (hpl i), sem_cb hs h2⟩
theorem pf_callB {f : List D → (List D → Prop) → Prop} (hc : ∀ i, CallR (X i) (.builtin id) r) (hs : CallF r f) (hg : ∀ i, Gl (X i) x) (hm : ∀ i, (X i).mg x = none) (hv : bootBuiltins x = some (.builtin id)) (ha : PAB X (e :: es) mr)
    (hn : x ≠ "__name__" := by decide) (hdb : (x == ("__debug__" : Str)) = false := by decide) (he : ∀ i, starEach (e :: es) (X i).env = (false, eval e (X i).env) :: starEach es (X i).env := by intro _; rfl)
    (hpl : ∀ i, (backTo pos (starEach es (X i).env)).any (·.1) = false := by intro _; rfl) : PF X (.Call (.Name x p) (e :: es) [] pos) (mCall f mr) := by
  obtain ⟨t, h1, h2⟩ := ha.ex
  exact ⟨_, fun i => pe_callB (hc i) (hg i) (hm i) hv (h1 i) hn hdb (he i) (hpl i), semf_cb hs h2⟩
theorem pd_callT {f : List D → (D → Prop) → Prop} (hc : ∀ i, CallR (X i) (.type T) r) (hs : CallS r f) (hg : ∀ i, Gl (X i) x) (hm : ∀ i, (X i).mg x = none) (hv : bootBuiltins x = some (.type T)) (ha : PAB X (e :: es) mr)
    (hn : x ≠ "__name__" := by decide) (hdb : (x == ("__debug__" : Str)) = false := by decide) (he : ∀ i, starEach (e :: es) (X i).env = (false, eval e (X i).env) :: starEach es (X i).env := by intro _; rfl)
    (hpl : ∀ i, (backTo pos (starEach es (X i).env)).any (·.1) = false := by intro _; rfl) : PD X (.Call (.Name x p) (e :: es) [] pos) (mCall f mr) := by
  obtain ⟨t, h1, h2⟩ := ha.ex
  exact ⟨_, fun i => pe_callTy (hc i) (hg i) (hm i) hv (h1 i) hn hdb (he i) (hpl i), sem_cb hs h2⟩
theorem pf_callT {f : List D → (List D → Prop) → Prop} (hc : ∀ i, CallR (X i) (.type T) r) (hs : CallF r f) (hg : ∀ i, Gl (X i) x) (hm : ∀ i, (X i).mg x = none) (hv : bootBuiltins x = some (.type T)) (ha : PAB X (e :: es) mr)
    (hn : x ≠ "__name__" := by decide) (hdb : (x == ("__debug__" : Str)) = false := by decide) (he : ∀ i, starEach (e :: es) (X i).env = (false, eval e (X i).env) :: starEach es (X i).env := by intro _; rfl)
    (hpl : ∀ i, (backTo pos (starEach es (X i).env)).any (·.1) = false := by intro _; rfl) : PF X (.Call (.Name x p) (e :: es) [] pos) (mCall f mr) := by
  obtain ⟨t, h1, h2⟩ := ha.ex
  exact ⟨_, fun i => pe_callTy (hc i) (hg i) (hm i) hv (h1 i) hn hdb (he i) (hpl i), semf_cb hs h2⟩
end
end
end DL

set_option Elab.async false
set_option linter.all false
set_option maxRecDepth 100000
namespace DL
open PySem PySem.Spec PyProof.Rows L2

/-! ### equality of data -/
mutual
def deq : D → D → Bool
  | .non, .non => true
  | .bl a, .bl b => a == b
  | .bl a, .int j => (if a then 1 else 0) == j
  | .int i, .bl b => i == (if b then 1 else 0)
  | .int i, .int j => i == j
  | .str x, .str y => x == y
  | .tup xs, .tup ys => deqL xs ys
  | .lst xs, .lst ys => deqL xs ys
  | _, _ => false
def deqL : List D → List D → Bool
  | [], [] => true
  | x :: xs, y :: ys => deq x y && deqL xs ys
  | _, _ => false
end
mutual
/-- data of depth at most n that the comparisons take -/
def okd : Nat → D → Bool
  | _, .non => true
  | _, .bl _ => true
  | _, .int _ => true
  | _, .str x => PyData.strOk x
  | 0, .tup _ => false
  | n + 1, .tup xs => okL n xs
  | 0, .lst _ => false
  | n + 1, .lst xs => okL n xs
  | _, .src => false
  | _, .ty _ => false
  | _, .dct _ _ => false
def okL : Nat → List D → Bool
  | _, [] => true
  | n, x :: xs => okd n x && okL n xs
end
mutual
def toPy : D → PyData
  | .non => .none
  | .bl b => .bool b
  | .int i => .int i
  | .str x => .str x
  | .tup xs => .tuple (toPyL xs)
  | .lst xs => .list (toPyL xs)
  | .src => .dict []
  | .ty _ => .dict []
  | .dct _ _ => .dict []
def toPyL : List D → List PyData
  | [] => []
  | x :: xs => toPy x :: toPyL xs
end
mutual
theorem eqv_deq : ∀ a b : D, PyData.eqv (toPy a) (toPy b) = deq a b
  | .tup xs, .tup ys => by
    show PyData.eqvAll (toPyL xs) (toPyL ys) = deqL xs ys
    exact eqv_deqL xs ys
  | .lst xs, .lst ys => by
    show PyData.eqvAll (toPyL xs) (toPyL ys) = deqL xs ys
    exact eqv_deqL xs ys
  | .non, b => by cases b <;> rfl
  | .bl _, b => by cases b <;> rfl
  | .int _, b => by cases b <;> rfl
  | .str _, b => by cases b <;> rfl
  | .src, b => by cases b <;> rfl
  | .ty _, b => by cases b <;> rfl
  | .dct _ _, b => by cases b <;> rfl
  | .tup xs, .non => rfl
  | .tup xs, .bl _ => rfl
  | .tup xs, .int _ => rfl
  | .tup xs, .str _ => rfl
  | .tup xs, .lst _ => rfl
  | .tup xs, .src => rfl
  | .tup xs, .ty _ => rfl
  | .tup xs, .dct _ _ => rfl
  | .lst xs, .non => rfl
  | .lst xs, .bl _ => rfl
  | .lst xs, .int _ => rfl
  | .lst xs, .str _ => rfl
  | .lst xs, .tup _ => rfl
  | .lst xs, .src => rfl
  | .lst xs, .ty _ => rfl
  | .lst xs, .dct _ _ => rfl
theorem eqv_deqL : ∀ a b : List D, PyData.eqvAll (toPyL a) (toPyL b) = deqL a b
  | [], [] => rfl
  | [], _ :: _ => rfl
  | _ :: _, [] => rfl
  | x :: xs, y :: ys => by
    show (PyData.eqv (toPy x) (toPy y) && PyData.eqvAll (toPyL xs) (toPyL ys)) = (deq x y && deqL xs ys)
    rw [eqv_deq x y, eqv_deqL xs ys]
end
mutual
theorem okd_lay : ∀ (n : Nat) (d : D), okd n d = true → (toPy d).canLay0 = true ∧ (toPy d).depth ≤ n
  | _, .non, _ => ⟨rfl, Nat.zero_le _⟩
  | _, .bl _, _ => ⟨rfl, Nat.zero_le _⟩
  | _, .int _, _ => ⟨rfl, Nat.zero_le _⟩
  | _, .str x, h => ⟨by
      show PyData.strOk x = true
      cases ‹Nat› <;> exact h, Nat.zero_le _⟩
  | n + 1, .tup xs, h => by
    have h' : okL n xs = true := h
    obtain ⟨h1, h2⟩ := okL_lay n xs h'
    exact ⟨h1, Nat.succ_le_succ h2⟩
  | n + 1, .lst xs, h => by
    have h' : okL n xs = true := h
    obtain ⟨h1, h2⟩ := okL_lay n xs h'
    exact ⟨h1, Nat.succ_le_succ h2⟩
  | 0, .tup xs, h => by cases h
  | 0, .lst xs, h => by cases h
  | 0, .src, h => by cases h
  | n + 1, .src, h => by cases h
  | 0, .ty _, h => by cases h
  | n + 1, .ty _, h => by cases h
  | 0, .dct _ _, h => by cases h
  | n + 1, .dct _ _, h => by cases h
theorem okL_lay : ∀ (n : Nat) (ds : List D), okL n ds = true → PyData.canLayAll0 (toPyL ds) = true ∧ PyData.depthAll (toPyL ds) ≤ n
  | _, [], _ => ⟨rfl, Nat.zero_le _⟩
  | n, x :: xs, h => by
    have h' : (okd n x && okL n xs) = true := by cases n <;> exact h
    rw [Bool.and_eq_true] at h'
    obtain ⟨h1, h2⟩ := okd_lay n x h'.1
    obtain ⟨h3, h4⟩ := okL_lay n xs h'.2
    refine ⟨?_, Nat.max_le.mpr ⟨h2, h4⟩⟩
    show (PyData.canLay0 (toPy x) && PyData.canLayAll0 (toPyL xs)) = true
    rw [h1, h3]
    rfl
end
theorem okd_shaped {d : D} (h : okd 60 d = true) : SeqAt.shaped (toPy d) = true := by
  obtain ⟨h1, h2⟩ := okd_lay 60 d h
  unfold SeqAt.shaped
  rw [h1, decide_eq_true (Nat.le_trans h2 (by decide))]
  rfl
mutual
theorem Rep.dp {K : Frg} {G : Gh} {H : Hp} (g : GRel G H) : ∀ {d : D} {n : Nat} {v : V}, okd n d = true → Rep G d v → Dp K H v (toPy d)
  | .non, _, _, _, h => by cases h; exact .non
  | .bl _, _, _, _, h => by cases h; exact .bl _
  | .int _, _, _, _, h => by cases h; exact .int _
  | .str _, _, _, _, h => by cases h; exact .str _
  | .tup xs, 0, _, o, _ => by cases o
  | .tup xs, n + 1, v, o, h => by
    obtain ⟨a, vs, e, h1, h2⟩ := h
    subst e
    exact .tup (SqT.of (g.f _ _ h1)) (RepL.dp g (n := n) o h2)
  | .lst xs, 0, _, o, _ => by cases o
  | .lst xs, n + 1, v, o, h => by
    obtain ⟨a, vs, e, h1, h2⟩ := h
    subst e
    exact .lst (SqL.of (g.f _ _ h1)) (RepL.dp g (n := n) o h2)
  | .src, 0, v, o, _ => by cases o
  | .src, n + 1, v, o, _ => by cases o
  | .ty _, 0, v, o, _ => by cases o
  | .ty _, n + 1, v, o, _ => by cases o
  | .dct _ _, 0, v, o, _ => by cases o
  | .dct _ _, n + 1, v, o, _ => by cases o
theorem RepL.dp {K : Frg} {G : Gh} {H : Hp} (g : GRel G H) : ∀ {ds : List D} {n : Nat} {vs : List V}, okL n ds = true → RepL G ds vs → DpAll K H vs (toPyL ds)
  | [], _, _, _, h => by cases h; exact .nil
  | x :: xs, n, vs, o, h => by
    obtain ⟨v, r, e, h1, h2⟩ := h
    subst e
    have o' : (okd n x && okL n xs) = true := by cases n <;> exact o
    rw [Bool.and_eq_true] at o'
    exact .cons (Rep.dp g o'.1 h1) (RepL.dp g o'.2 h2)
end
theorem RepB.dp {K : Frg} {G : Gh} {H : Hp} (g : GRel G H) : ∀ {d : D} {n : Nat} {v : V}, okd n d = true → RepB G H d v → Dp K H v (toPy d)
  | .non, _, _, o, h => Rep.dp g (d := .non) (n := 0) rfl h
  | .bl b, _, _, o, h => Rep.dp g (d := .bl b) (n := 0) rfl h
  | .int i, _, _, o, h => Rep.dp g (d := .int i) (n := 0) rfl h
  | .str x, n, _, o, h => Rep.dp g (d := .str x) (n := n) o h
  | .tup xs, n, v, o, h => Rep.dp g (d := .tup xs) (n := n) o h
  | .lst xs, 0, _, o, _ => by cases o
  | .lst xs, n + 1, v, o, h => by
    obtain ⟨a, vs, e, h1, _, h2⟩ := h
    subst e
    exact .lst (SqL.of h1) (RepL.dp g (n := n) o h2)
  | .src, 0, v, o, _ => by cases o
  | .src, n + 1, v, o, _ => by cases o
  | .ty _, 0, v, o, _ => by cases o
  | .ty _, n + 1, v, o, _ => by cases o
  | .dct _ _, 0, v, o, _ => by cases o
  | .dct _ _, n + 1, v, o, _ => by cases o

/-! ### the operators -/
section
variable {X : Cx} {K : Frg}
/-- + -/
def rAddA (K : Frg) : R2 := fun x y H Q => rI0 (fun i j => .int (i + j)) x y H Q ∨ rCatA K x y H Q ∨ rCat x y H Q ∨ (∃ i j, x = .str i ∧ y = .str j ∧ i.length + j.length ≤ sizeLine ∧ Q (.str (i ++ j)) H)
theorem op_addA (hK : X.K = K) : OpR X (binaryOp .Add) (rAddA K) := by
  subst hK
  exact op_add.or (op_catA.or (op_cat.or op_add_str))
def mAdd : D → D → (D → Prop) → Prop
  | .int i, .int j, Q => Q (.int (i + j))
  | .tup xs, .tup ys, Q => xs.length + ys.length ≤ sizeLine ∧ Q (.tup (xs ++ ys))
  | .lst xs, .lst ys, Q => xs.length + ys.length ≤ sizeLine ∧ Q (.lst (xs ++ ys))
  | .str i, .str j, Q => i.length + j.length ≤ sizeLine ∧ Q (.str (i ++ j))
  | _, _, _ => False
theorem os_add : OpS (rAddA K) mAdd := by
  intro G H x y dx dy Q k g rx ry q c
  cases dx <;> cases dy <;> try exact False.elim q
  · rename_i i j
    cases rx
    cases ry
    exact .inl ⟨_, _, rfl, rfl, c _ H G (.int (i + j)) (Step.refl _ _) g rfl q⟩
  · rename_i i j
    cases rx
    cases ry
    exact .inr (.inr (.inr ⟨_, _, rfl, rfl, q.1, c _ H G (.str (i ++ j)) (Step.refl _ _) g rfl q.2⟩))
  · rename_i xs ys
    obtain ⟨a, vs, e, h1, h3⟩ := rx
    obtain ⟨b, ws, e', h1', h3'⟩ := ry
    subst e
    subst e'
    have l1 := h3.length
    have l2 := h3'.length
    refine .inr (.inl ⟨a, b, vs, ws, rfl, rfl, SqT.of (g.f _ _ h1), SqT.of (g.f _ _ h1'), by rw [← l1, ← l2]; exact q.1, fun z => ?_, fun z z' => ?_, fun z z' p n => ?_⟩)
    · subst z
      have e : xs = [] := List.length_eq_zero_iff.mp l1
      subst e
      exact c _ H G (.tup ys) (Step.refl _ _) g ⟨b, ws, rfl, h1', h3'⟩ q.2
    · subst z'
      have e : ys = [] := List.length_eq_zero_iff.mp l2
      subst e
      have q2 := q.2
      rw [List.append_nil] at q2
      exact c _ H G (.tup xs) (Step.refl _ _) g ⟨a, vs, rfl, h1, h3⟩ q2
    · obtain ⟨s, g', r⟩ := new_tup g n (h3.append h3')
      exact c _ _ _ _ s g' r q.2
  · obtain ⟨a, vs, e, h1, h2, h3⟩ := rx
    obtain ⟨b, ws, e', h1', h2', h3'⟩ := ry
    subst e
    subst e'
    have l1 := h3.length
    have l2 := h3'.length
    refine .inr (.inr (.inl ⟨a, b, vs, ws, rfl, rfl, h1, h1', by rw [← l1, ← l2]; exact q.1, fun p n => ?_⟩))
    obtain ⟨s, g', r⟩ := new_lst g n (h3.append h3')
    exact c _ _ _ _ s g' r q.2

theorem os_int {g : Int → Int → V} {gd : Int → Int → D} {m : D → D → (D → Prop) → Prop} (hm : ∀ a b Q, m a b Q → ∃ i j, a = .int i ∧ b = .int j ∧ Q (gd i j)) (hr : ∀ G i j, Rep G (gd i j) (g i j)) : OpS (rI0 g) m := by
  intro G H x y dx dy Q k gg rx ry q c
  obtain ⟨i, j, e1, e2, q'⟩ := hm _ _ _ q
  subst e1
  subst e2
  cases rx
  cases ry
  exact ⟨i, j, rfl, rfl, c _ H G _ (Step.refl _ _) gg (hr _ _ _) q'⟩
theorem os_intC {C : Int → Int → Prop} {g : Int → Int → V} {gd : Int → Int → D} {m : D → D → (D → Prop) → Prop} (hm : ∀ a b Q, m a b Q → ∃ i j, a = .int i ∧ b = .int j ∧ C i j ∧ Q (gd i j)) (hr : ∀ G i j, Rep G (gd i j) (g i j)) : OpS (rI C g) m := by
  intro G H x y dx dy Q k gg rx ry q c
  obtain ⟨i, j, e1, e2, hc, q'⟩ := hm _ _ _ q
  subst e1
  subst e2
  cases rx
  cases ry
  exact ⟨i, j, rfl, rfl, hc, c _ H G _ (Step.refl _ _) gg (hr _ _ _) q'⟩
/-- two ints in, under C -/
def mII (C : Int → Int → Prop) (g : Int → Int → D) : D → D → (D → Prop) → Prop
  | .int i, .int j, Q => C i j ∧ Q (g i j)
  | _, _, _ => False
def mII0 (g : Int → Int → D) : D → D → (D → Prop) → Prop
  | .int i, .int j, Q => Q (g i j)
  | _, _, _ => False
theorem mII_inv {C : Int → Int → Prop} {g : Int → Int → D} : ∀ a b Q, mII C g a b Q → ∃ i j, a = .int i ∧ b = .int j ∧ C i j ∧ Q (g i j) := by
  intro a b Q h
  cases a <;> cases b <;> try exact False.elim h
  exact ⟨_, _, rfl, rfl, h.1, h.2⟩
theorem mII0_inv {g : Int → Int → D} : ∀ a b Q, mII0 g a b Q → ∃ i j, a = .int i ∧ b = .int j ∧ Q (g i j) := by
  intro a b Q h
  cases a <;> cases b <;> try exact False.elim h
  exact ⟨_, _, rfl, rfl, h⟩
def mSub := mII0 fun i j => .int (i - j)
theorem os_sub : OpS (rI0 fun i j => .int (i - j)) mSub := os_int mII0_inv fun _ _ _ => rfl
def mDiv := mII CDivW fun i j => .int (i / j)
theorem os_div : OpS (rI CDivW fun i j => .int (i / j)) mDiv := os_intC mII_inv fun _ _ _ => rfl
def mMod := mII (fun _ j => 0 < j) fun i j => .int (i % j)
theorem os_mod : OpS (rI (fun _ j => 0 < j) fun i j => .int (i % j)) mMod := os_intC mII_inv fun _ _ _ => rfl
def mPow := mII CPow fun i j => .int (i ^ j.toNat)
theorem os_pow : OpS (rI CPow fun i j => .int (i ^ j.toNat)) mPow := os_intC mII_inv fun _ _ _ => rfl
def mShl := mII CPow fun i j => .int (i * 2 ^ j.toNat)
theorem os_shl : OpS (rI CPow fun i j => .int (i * 2 ^ j.toNat)) mShl := os_intC mII_inv fun _ _ _ => rfl
def mLt := mII0 fun i j => .bl (decide (i < j))
theorem os_lt : OpS (rI0 fun i j => .bl (decide (i < j))) mLt := os_int mII0_inv fun _ _ _ => rfl
def mLe := mII0 fun i j => .bl (decide (i ≤ j))
theorem os_le : OpS (rI0 fun i j => .bl (decide (i ≤ j))) mLe := os_int mII0_inv fun _ _ _ => rfl
def mGt := mII0 fun i j => .bl (decide (j < i))
theorem os_gt : OpS (rI0 fun i j => .bl (decide (j < i))) mGt := os_int mII0_inv fun _ _ _ => rfl
def mGe := mII0 fun i j => .bl (decide (j ≤ i))
theorem os_ge : OpS (rI0 fun i j => .bl (decide (j ≤ i))) mGe := os_int mII0_inv fun _ _ _ => rfl
/-- * of ints, a list | a tuple so many times -/
def rMulA (K : Frg) : R2 := fun x y H Q => rI CMulW (fun i j => .int (i * j)) x y H Q ∨ rRep x y H Q ∨ rRepT K x y H Q
theorem op_mulA (hK : X.K = K) : OpR X (binaryOp .Mult) (rMulA K) := by
  subst hK
  exact op_mulW.or (op_rep.or op_repT)
def mMul : D → D → (D → Prop) → Prop
  | .int i, .int j, Q => CMulW i j ∧ Q (.int (i * j))
  | .lst xs, .int j, Q => -(2 ^ 63) ≤ j ∧ j < 2 ^ 63 ∧ xs.length * j.toNat ≤ sizeLine ∧ Q (.lst (List.replicate j.toNat xs).flatten)
  | .tup xs, .int j, Q => xs ≠ [] ∧ 2 ≤ j ∧ j ≤ 1000 ∧ xs.length ≤ 1000 ∧ Q (.tup (List.replicate j.toNat xs).flatten)
  | _, _, _ => False
theorem os_mul : OpS (rMulA K) mMul := by
  intro G H x y dx dy Q k g rx ry q c
  cases dx <;> cases dy <;> try exact False.elim q
  · rename_i i j
    cases rx
    cases ry
    exact .inl ⟨_, _, rfl, rfl, q.1, c _ H G (.int (i * j)) (Step.refl _ _) g rfl q.2⟩
  · rename_i xs j
    obtain ⟨a, vs, e, h1, h3⟩ := rx
    subst e
    cases ry
    have l1 := h3.length
    refine .inr (.inr ⟨a, j, vs, rfl, rfl, SqT.of (g.f _ _ h1), fun z => q.1 ?_, q.2.1, q.2.2.1, by rw [← l1]; exact q.2.2.2.1, fun p n => ?_⟩)
    · subst z
      exact List.length_eq_zero_iff.mp l1
    · obtain ⟨s, g', r⟩ := new_tup g n (h3.rep j.toNat)
      exact c _ _ _ _ s g' r q.2.2.2.2
  · rename_i xs j
    obtain ⟨a, vs, e, h1, h2, h3⟩ := rx
    subst e
    cases ry
    have l1 := h3.length
    refine .inr (.inl ⟨a, j, vs, rfl, rfl, h1, q.1, q.2.1, by rw [← l1]; exact q.2.2.1, fun p n => ?_⟩)
    obtain ⟨s, g', r⟩ := new_lst g n (h3.rep j.toNat)
    exact c _ _ _ _ s g' r q.2.2.2
def mNeg : D → (D → Prop) → Prop
  | .int i, Q => Q (.int (-i))
  | _, _ => False
theorem us_neg : UnS (rU fun i => .int (-i)) mNeg := by
  intro G H x dx Q k g rx q c
  cases dx <;> try exact False.elim q
  cases rx
  exact ⟨_, rfl, c _ H G (.int (-_)) (Step.refl _ _) g rfl q⟩
/-- ==, != -/
def mEq : D → D → (D → Prop) → Prop
  | .str x, .str y, Q => Q (.bl (x == y))
  | a, b, Q => okd 60 a = true ∧ okd 60 b = true ∧ Q (.bl (deq a b))
def mNe : D → D → (D → Prop) → Prop
  | .str x, .str y, Q => Q (.bl (!(x == y)))
  | a, b, Q => okd 60 a = true ∧ okd 60 b = true ∧ Q (.bl (!deq a b))
def rEqA (K : Frg) : R2 := fun x y H Q => rEqD K x y H Q ∨ rEq x y H Q
def rNeA (K : Frg) : R2 := fun x y H Q => rNeD K x y H Q ∨ rNe x y H Q
theorem mEq_inv : ∀ {a b : D} {Q : D → Prop}, mEq a b Q → (∃ x y, a = .str x ∧ b = .str y ∧ Q (.bl (x == y))) ∨ (okd 60 a = true ∧ okd 60 b = true ∧ Q (.bl (deq a b))) := by
  intro a b Q h
  cases a <;> cases b <;> first | exact .inr h | exact .inl ⟨_, _, rfl, rfl, h⟩
theorem mNe_inv : ∀ {a b : D} {Q : D → Prop}, mNe a b Q → (∃ x y, a = .str x ∧ b = .str y ∧ Q (.bl (!(x == y)))) ∨ (okd 60 a = true ∧ okd 60 b = true ∧ Q (.bl (!deq a b))) := by
  intro a b Q h
  cases a <;> cases b <;> first | exact .inr h | exact .inl ⟨_, _, rfl, rfl, h⟩
theorem mEq_of {a b : D} {Q : D → Prop} (ha : okd 60 a = true) (hb : okd 60 b = true) (q : Q (.bl (deq a b))) : mEq a b Q := by
  cases a <;> cases b <;> first | exact ⟨ha, hb, q⟩ | exact q
theorem mNe_of {a b : D} {Q : D → Prop} (ha : okd 60 a = true) (hb : okd 60 b = true) (q : Q (.bl (!deq a b))) : mNe a b Q := by
  cases a <;> cases b <;> first | exact ⟨ha, hb, q⟩ | exact q
theorem os_eq : OpS (rEqA K) mEq := by
  intro G H x y dx dy Q k g rx ry q c
  rcases mEq_inv q with ⟨a, b, e1, e2, q⟩ | q
  · subst e1
    subst e2
    cases rx
    cases ry
    refine .inr ⟨rfl, ?_⟩
    rw [dec_str]
    exact c _ H G (.bl (a == b)) (Step.refl _ _) g rfl q
  · refine .inl ⟨toPy dx, toPy dy, RepB.dp g q.1 rx, RepB.dp g q.2.1 ry, okd_shaped q.1, okd_shaped q.2.1, ?_⟩
    rw [eqv_deq]
    exact c _ H G (.bl (deq dx dy)) (Step.refl _ _) g rfl q.2.2
theorem os_ne : OpS (rNeA K) mNe := by
  intro G H x y dx dy Q k g rx ry q c
  rcases mNe_inv q with ⟨a, b, e1, e2, q⟩ | q
  · subst e1
    subst e2
    cases rx
    cases ry
    refine .inr ⟨rfl, ?_⟩
    rw [dec_str]
    exact c _ H G (.bl (!(a == b))) (Step.refl _ _) g rfl q
  · refine .inl ⟨toPy dx, toPy dy, RepB.dp g q.1 rx, RepB.dp g q.2.1 ry, okd_shaped q.1, okd_shaped q.2.1, ?_⟩
    rw [eqv_deq]
    exact c _ H G (.bl (!deq dx dy)) (Step.refl _ _) g rfl q.2.2
theorem op_eqA (hK : X.K = K) {k : Nat} (hr : Room k X.A) : OpR X (compareOp .Eq) (rEqA K) := by
  subst hK
  exact (op_eqD hr.units).or op_eq
theorem op_neA (hK : X.K = K) {k : Nat} (hr : Room k X.A) : OpR X (compareOp .NotEq) (rNeA K) := by
  subst hK
  exact (op_neD hr.units).or op_ne
/-- is, is not: None, True, False -/
def isNon : D → Bool
  | .non => true
  | _ => false
theorem isNon_of {G : Gh} {H : Hp} {d : D} {v : V} (h : RepB G H d v) : decide (v = .non) = isNon d := by
  cases d with
  | non => cases h; rfl
  | bl _ => cases h; rfl
  | int _ => cases h; rfl
  | str _ => cases h; rfl
  | ty _ => cases h; rfl
  | tup xs => obtain ⟨a, vs, e, _⟩ := h; subst e; rfl
  | lst xs => obtain ⟨a, vs, e, _⟩ := h; subst e; rfl
  | dct ks xs => obtain ⟨a, o, ws, e, _⟩ := h; subst e; rfl
  | src => obtain ⟨p, _, e⟩ := h; subst e; rfl
def mIs : D → D → (D → Prop) → Prop
  | a, .non, Q => Q (.bl (isNon a))
  | .bl a, .bl b, Q => Q (.bl (decide (a = b)))
  | _, _, _ => False
def mIsNot : D → D → (D → Prop) → Prop
  | a, .non, Q => Q (.bl (!isNon a))
  | .bl a, .bl b, Q => Q (.bl (!decide (a = b)))
  | _, _, _ => False
def rIsA : R2 := fun x y H Q => (y = .non ∧ Q (.bl (decide (x = .non))) H) ∨ rIsB x y H Q
def rIsNotA : R2 := fun x y H Q => (y = .non ∧ Q (.bl (!decide (x = .non))) H) ∨ rNotB x y H Q
theorem op_isA : OpR X (compareOp .Is) rIsA := op_isN.or op_isBl
theorem op_isNotA : OpR X (compareOp .IsNot) rIsNotA := op_notN.or op_notBl
theorem os_is : OpS rIsA mIs := by
  intro G H x y dx dy Q k g rx ry q c
  cases dy with
  | non =>
    cases ry
    refine .inl ⟨rfl, ?_⟩
    rw [isNon_of rx]
    refine c _ H G (.bl (isNon dx)) (Step.refl _ _) g rfl ?_
    cases dx <;> exact q
  | bl b =>
    cases dx <;> try exact False.elim q
    cases rx
    cases ry
    exact .inr ⟨_, _, rfl, rfl, c _ H G (.bl (decide (_ = _))) (Step.refl _ _) g rfl q⟩
  | _ => cases dx <;> exact False.elim q
theorem os_isNot : OpS rIsNotA mIsNot := by
  intro G H x y dx dy Q k g rx ry q c
  cases dy with
  | non =>
    cases ry
    refine .inl ⟨rfl, ?_⟩
    rw [isNon_of rx]
    refine c _ H G (.bl (!isNon dx)) (Step.refl _ _) g rfl ?_
    cases dx <;> exact q
  | bl b =>
    cases dx <;> try exact False.elim q
    cases rx
    cases ry
    exact .inr ⟨_, _, rfl, rfl, c _ H G (.bl (!decide (_ = _))) (Step.refl _ _) g rfl q⟩
  | _ => cases dx <;> exact False.elim q
/-- in, not in -/
def flatD : D → Bool
  | .non | .bl _ | .int _ | .str _ => true
  | _ => false
theorem flat_of {G : Gh} {H : Hp} {d : D} {v : V} (f : flatD d = true) (h : RepB G H d v) : flatV v = true := by
  cases d <;> first | (cases f; done) | (cases h; rfl)
theorem flatL_of {G : Gh} : ∀ {ds : List D} {vs : List V}, ds.all flatD = true → RepL G ds vs → vs.all flatV = true
  | [], vs, _, h => by cases h; rfl
  | d :: ds, vs, f, h => by
    obtain ⟨v, r, e, h1, h2⟩ := h
    subst e
    rw [List.all_cons, Bool.and_eq_true] at f
    rw [List.all_cons, flatL_of f.2 h2]
    have : flatV v = true := by
      have f1 := f.1
      cases d <;> first | (cases f1; done) | (cases h1; rfl)
    rw [this]
    rfl
theorem eqV_deq {G G' : Gh} {H : Hp} {a b : D} {v w : V} (fa : flatD a = true) (fb : flatD b = true) (ha : Rep G a v) (hb : RepB G' H b w) : eqV v w = deq a b := by
  cases a <;> first | (cases fa; done) | (cases ha; cases b <;> first | (cases fb; done) | (cases hb; rfl))
theorem inV_deq {G G' : Gh} {H : Hp} {b : D} {w : V} (fb : flatD b = true) (hb : RepB G' H b w) : ∀ {ds : List D} {vs : List V}, ds.all flatD = true → RepL G ds vs → inV w vs = ds.any fun y => deq y b
  | [], vs, _, h => by cases h; rfl
  | d :: ds, vs, f, h => by
    obtain ⟨v, r, e, h1, h2⟩ := h
    subst e
    rw [List.all_cons, Bool.and_eq_true] at f
    have ih := inV_deq fb hb f.2 h2
    unfold inV at ih ⊢
    rw [List.any_cons, List.any_cons, ih, eqV_deq f.1 fb h1 hb]
theorem anyPy : ∀ (ds : List D) (b : D), ((toPyL ds).any fun z => PyData.eqv z (toPy b)) = ds.any fun y => deq y b
  | [], _ => rfl
  | d :: ds, b => by
    show (toPy d :: toPyL ds).any _ = _
    rw [List.any_cons, List.any_cons, eqv_deq, anyPy ds b]
def mInB (f : Bool → Bool) : D → D → (D → Prop) → Prop
  | x, .lst ys, Q => okd 60 x = true ∧ okd 60 (.lst ys) = true ∧ Q (.bl (f (ys.any fun y => deq y x)))
  | x, .tup ys, Q => flatD x = true ∧ ys.all flatD = true ∧ Q (.bl (f (ys.any fun y => deq y x)))
  | _, _, _ => False
def mIn := mInB id
def mNotIn := mInB not
def rInA (K : Frg) : R2 := fun x y H Q => rInD K x y H Q ∨ rIn K false x y H Q
def rNotInA (K : Frg) : R2 := fun x y H Q => rNotInD K x y H Q ∨ rIn K true x y H Q
theorem u65 {A : Around} {k : Nat} (hr : Room k A) : A.units + 65 < cLine := by
  have := hr.un
  omega
theorem op_inA (hK : X.K = K) {k : Nat} (hr : Room k X.A) : OpR X (compareOp .In) (rInA K) := by
  subst hK
  exact (op_inD (u65 hr)).or op_in_seq
theorem op_notInA (hK : X.K = K) {k : Nat} (hr : Room k X.A) : OpR X (compareOp .NotIn) (rNotInA K) := by
  subst hK
  exact (op_notInD (u65 hr)).or op_notIn_seq
theorem os_in : OpS (rInA K) mIn := by
  intro G H x y dx dy Q k g rx ry q c
  cases dy with
  | lst ys =>
    obtain ⟨q1, q2, q3⟩ := q
    refine .inl ⟨toPy dx, toPyL ys, RepB.dp g q1 rx, RepB.dp (d := .lst ys) g q2 ry, okd_shaped q1, okd_shaped q2, ?_⟩
    rw [anyPy]
    exact c _ H G (.bl (ys.any fun y => deq y dx)) (Step.refl _ _) g rfl q3
  | tup ys =>
    obtain ⟨q1, q2, q3⟩ := q
    obtain ⟨a, vs, e, h1, h2⟩ := ry
    subst e
    refine .inr ⟨a, vs, rfl, .inr (SqT.of (g.f _ _ h1)), flat_of q1 rx, flatL_of q2 h2, ?_⟩
    rw [inV_deq q1 rx q2 h2]
    exact c _ H G (.bl (ys.any fun y => deq y dx)) (Step.refl _ _) g rfl q3
  | _ => exact False.elim q
theorem os_notIn : OpS (rNotInA K) mNotIn := by
  intro G H x y dx dy Q k g rx ry q c
  cases dy with
  | lst ys =>
    obtain ⟨q1, q2, q3⟩ := q
    refine .inl ⟨toPy dx, toPyL ys, RepB.dp g q1 rx, RepB.dp (d := .lst ys) g q2 ry, okd_shaped q1, okd_shaped q2, ?_⟩
    rw [anyPy]
    exact c _ H G (.bl (!ys.any fun y => deq y dx)) (Step.refl _ _) g rfl q3
  | tup ys =>
    obtain ⟨q1, q2, q3⟩ := q
    obtain ⟨a, vs, e, h1, h2⟩ := ry
    subst e
    refine .inr ⟨a, vs, rfl, .inr (SqT.of (g.f _ _ h1)), flat_of q1 rx, flatL_of q2 h2, ?_⟩
    rw [inV_deq q1 rx q2 h2]
    exact c _ H G (.bl (!ys.any fun y => deq y dx)) (Step.refl _ _) g rfl q3
  | _ => exact False.elim q
/-- a[i] -/
theorem atI_rep {G : Gh} {ds : List D} {vs : List V} {i : Int} {d : D} (h : RepL G ds vs) (e : atI ds i = some d) : ∃ v, atI vs i = some v ∧ Rep G d v := by
  unfold atI at e ⊢
  rw [← h.length]
  cases hn : ixN ds.length i with
  | none =>
    rw [hn] at e
    cases e
  | some j =>
    rw [hn] at e
    exact h.get e
def mIx : D → D → (D → Prop) → Prop
  | .lst xs, .int i, Q => (match atI xs i with | some d => Q d | none => False)
  | .tup xs, .int i, Q => (match atI xs i with | some d => Q d | none => False)
  | .str z, .int i, Q => z.length ≤ sizeLine ∧ (match atI z.cps.toList i with | some c => Q (.str ⟨#[c]⟩) | none => False)
  | _, _, _ => False
theorem os_ix : OpS (rIx K) mIx := by
  intro G H x y dx dy Q k g rx ry q c
  cases dx <;> cases dy <;> try exact False.elim q
  · rename_i z i
    cases rx
    cases ry
    have q2 : (match atI z.cps.toList i with | some c => Q (.str ⟨#[c]⟩) | none => False) := q.2
    cases e : atI z.cps.toList i with
    | none =>
      rw [e] at q2
      exact False.elim q2
    | some cc =>
      rw [e] at q2
      exact .inr (.inr ⟨z, i, cc, rfl, rfl, q.1, e, c _ H G (.str ⟨#[cc]⟩) (Step.refl _ _) g rfl q2⟩)
  · rename_i xs i
    obtain ⟨a, vs, e, h1, h3⟩ := rx
    subst e
    cases ry
    have q2 : (match atI xs i with | some d => Q d | none => False) := q
    cases e : atI xs i with
    | none =>
      rw [e] at q2
      exact False.elim q2
    | some d =>
      rw [e] at q2
      obtain ⟨v, hv, rv⟩ := atI_rep h3 e
      exact .inr (.inl ⟨a, vs, i, v, rfl, rfl, SqT.of (g.f _ _ h1), hv, c _ H G d (Step.refl _ _) g rv q2⟩)
  · rename_i xs i
    obtain ⟨a, vs, e, h1, h2, h3⟩ := rx
    subst e
    cases ry
    have q2 : (match atI xs i with | some d => Q d | none => False) := q
    cases e : atI xs i with
    | none =>
      rw [e] at q2
      exact False.elim q2
    | some d =>
      rw [e] at q2
      obtain ⟨v, hv, rv⟩ := atI_rep h3 e
      exact .inl ⟨a, vs, i, v, rfl, rfl, SqL.of h1, hv, c _ H G d (Step.refl _ _) g rv q2⟩
theorem ix_A (hK : X.K = K) : IxR X (rIx K) := by
  subst hK
  exact ix_seq
end
section
variable {ι : Type} {X : ι → Cx} {K : Frg} {e a b c : Expr} {es : List Expr} {m ma mb mc : M D} {pos p2 : Pos}
theorem pd_ix (hK : ∀ i, (X i).K = K) (ha : PB X a ma) (hb : PB X b mb) (hs : PlainIx b) : PD X (.Subscript a b pos) (m2 mIx ma mb) := by
  obtain ⟨ta, h1, h2⟩ := ha.ex
  obtain ⟨tb, h3, h4⟩ := hb.ex
  exact ⟨_, fun i => pe_ix (ix_A (hK i)) (h1 i) (h3 i) hs, sem_op os_ix h2 h4⟩

/-! ### slices -/
def SemO (t : TO) (m : M (Option Int)) : Prop := ∀ (B : Bs) (G : Gh) (en : En) (σ : L2.St) (H : Hp) (Q : Option Int → Prop) (k : Option Int → Hp → Prop), Rel B G en σ H → m en Q →
  (∀ o H' G', Step G H G' H' → GRel G' H' → Q o → k o H') → t σ H k
structure POd (X : ι → Cx) (e : Option Expr) (m : M (Option Int)) : Prop where
  ex : ∃ t, (∀ i, PO (X i) e t) ∧ SemO t m
def oN : M (Option Int) := fun _ Q => Q none
def oS (m : M D) : M (Option Int) := fun en Q => m en fun d => match d with
  | .int i => Q (some i)
  | _ => False
theorem pod_none : POd X none oN := ⟨_, fun _ => po_none, fun B G en σ H Q k r q c => c none H G (Step.refl _ _) r.g q⟩
theorem pod_some (h : PB X e m) : POd X (some e) (oS m) := by
  obtain ⟨t, h1, h2⟩ := h.ex
  refine ⟨_, fun i => po_some (h1 i), fun B G en σ H Q k r q c => h2 B G en σ H _ _ r q fun v H1 G1 d s1 g1 r1 q1 => ?_⟩
  cases d <;> try exact False.elim q1
  cases r1
  exact ⟨_, rfl, c _ H1 G1 s1 g1 q1⟩
/-- xs[lo:hi] -/
def cutD (xs : List D) (lo hi : Option Int) : List D := (xs.drop (HT.sIx xs.length 0 lo)).take (HT.sIx xs.length xs.length hi - HT.sIx xs.length 0 lo)
theorem RepL.cut {G : Gh} {ds : List D} {vs : List V} (h : RepL G ds vs) (lo hi : Option Int) : RepL G (cutD ds lo hi) (cutV vs lo hi) := by
  unfold cutD cutV
  rw [h.length]
  exact (h.drop _).take _
def rSlD (K : Frg) : V → Option Int → Option Int → Hp → VK → Prop := fun x lo hi H Q => rSlL K x lo hi H Q ∨ rSlA K x lo hi H Q
variable {lo hi : Option Expr} {ml mh : M (Option Int)}
def mSl (m : M D) (ml mh : M (Option Int)) : M D := fun en Q => m en fun x => ml en fun l => mh en fun h => match x with
  | .lst xs => Q (.lst (cutD xs l h))
  | .tup xs => Q (.tup (cutD xs l h))
  | _ => False
def mSlF (m : M D) (ml mh : M (Option Int)) : M (List D) := fun en Q => m en fun x => ml en fun l => mh en fun h => match x with
  | .lst xs => Q (cutD xs l h)
  | _ => False
theorem sl_D {X : Cx} (hK : X.K = K) : SlR X (rSlD K) := by
  subst hK
  exact sl_list.or sl_tupA
theorem sl_L {X : Cx} (hK : X.K = K) : SlR X (rSlL K) := by
  subst hK
  exact sl_list
theorem cutV_whole {vs : List V} {lo hi : Option Int} (h : HT.sIx vs.length 0 lo = 0 ∧ HT.sIx vs.length vs.length hi = vs.length) : cutV vs lo hi = vs := by
  unfold cutV
  rw [h.1, h.2, List.drop_zero, Nat.sub_zero, List.take_length]
theorem cutD_whole {vs : List D} {lo hi : Option Int} (h : HT.sIx vs.length 0 lo = 0 ∧ HT.sIx vs.length vs.length hi = vs.length) : cutD vs lo hi = vs := by
  unfold cutD
  rw [h.1, h.2, List.drop_zero, Nat.sub_zero, List.take_length]
theorem pd_slice (hK : ∀ i, (X i).K = K) (h : PB X e m) (hl : POd X lo ml) (hh : POd X hi mh) : PD X (.Subscript e (.Slice lo hi none p2) pos) (mSl m ml mh) := by
  obtain ⟨t, h1, h2⟩ := h.ex
  obtain ⟨tl, h3, h4⟩ := hl.ex
  obtain ⟨th, h5, h6⟩ := hh.ex
  refine ⟨_, fun i => pe_slice (sl_D (hK i)) (h1 i) (h3 i) (h5 i), fun B G en σ H Q k r q c => h2 B G en σ H _ _ r q fun v H1 G1 d s1 g1 r1 q1 =>
    h4 B G1 en σ H1 _ _ (r.step s1 g1) q1 fun l H2 G2 s2 g2 q2 => h6 B G2 en σ H2 _ _ (r.step (s1.trans s2) g2) q2 fun u H3 G3 s3 g3 q3 => ?_⟩
  have s13 := (s1.trans s2).trans s3
  have r3 := (r1.step s2).step s3
  cases d <;> try exact False.elim q3
  · obtain ⟨a, vs, e, k1, k2⟩ := r3
    subst e
    refine .inr ⟨a, vs, rfl, SqT.of (g3.f _ _ k1), fun w => ?_, fun w p n => ?_⟩
    · rename_i xs
      have q3' : Q (.tup (cutD xs l u)) := q3
      rw [cutD_whole (by rw [k2.length]; exact w)] at q3'
      exact c _ H3 G3 (.tup xs) s13 g3 ⟨a, vs, rfl, k1, k2⟩ q3'
    · obtain ⟨s, g', rr⟩ := new_tup g3 n (k2.cut l u)
      exact c _ _ _ _ (s13.trans s) g' rr q3
  · obtain ⟨a, vs, e, k1, _, k2⟩ := r3
    subst e
    refine .inl ⟨a, vs, rfl, SqL.of k1, fun p n => ?_⟩
    obtain ⟨s, g', rr⟩ := new_lst g3 n (k2.cut l u)
    exact c _ _ _ _ (s13.trans s) g' rr q3
theorem pf_slice (hK : ∀ i, (X i).K = K) (h : PB X e m) (hl : POd X lo ml) (hh : POd X hi mh) : PF X (.Subscript e (.Slice lo hi none p2) pos) (mSlF m ml mh) := by
  obtain ⟨t, h1, h2⟩ := h.ex
  obtain ⟨tl, h3, h4⟩ := hl.ex
  obtain ⟨th, h5, h6⟩ := hh.ex
  refine ⟨_, fun i => pe_slice (sl_L (hK i)) (h1 i) (h3 i) (h5 i), fun B G en σ H Q k r q c => h2 B G en σ H _ _ r q fun v H1 G1 d s1 g1 r1 q1 =>
    h4 B G1 en σ H1 _ _ (r.step s1 g1) q1 fun l H2 G2 s2 g2 q2 => h6 B G2 en σ H2 _ _ (r.step (s1.trans s2) g2) q2 fun u H3 G3 s3 g3 q3 => ?_⟩
  have s13 := (s1.trans s2).trans s3
  have r3 := (r1.step s2).step s3
  cases d <;> try exact False.elim q3
  obtain ⟨a, vs, e, k1, _, k2⟩ := r3
  subst e
  refine ⟨a, vs, rfl, SqL.of k1, fun p n => ?_⟩
  exact c p _ _ G3 _ (s13.trans (Step.new n)) (g3.new n) (there_none s13 n) upd_same (g3.fnone n) (g3.snone n) (k2.cut l u) q3
/-- xs[::-1], a list -/
def mRev (m : M D) : M (List D) := fun en Q => m en fun x => match x with
  | .lst xs => Q xs.reverse
  | _ => False
theorem tRevL_K {X : Cx} {K : Frg} {e : Expr} {t : TE} {k : Nat} {p1 p2 p3 pos : Pos} (hK : X.K = K) (h : PE X e t) : PE X (.Subscript e (.Slice none none (some (.UnaryOp .USub (.Constant (.int 1) k p1) p2)) p3) pos) (tRevL K t) := by
  subst hK
  exact pe_revL h
theorem pf_rev {k : Nat} {p1 p3 : Pos} (hK : ∀ i, (X i).K = K) (h : PB X e m) : PF X (.Subscript e (.Slice none none (some (.UnaryOp .USub (.Constant (.int 1) k p1) p2)) p3) pos) (mRev m) := by
  obtain ⟨t, h1, h2⟩ := h.ex
  refine ⟨_, fun i => tRevL_K (hK i) (h1 i), fun B G en σ H Q k r q c => h2 B G en σ H _ _ r q fun v H1 G1 d s1 g1 r1 q1 => ?_⟩
  cases d <;> try exact False.elim q1
  obtain ⟨a, vs, e, k1, _, k2⟩ := r1
  subst e
  refine ⟨a, vs, rfl, SqL.of k1, fun p n => ?_⟩
  exact c p _ _ G1 _ (s1.trans (Step.new n)) (g1.new n) (there_none s1 n) upd_same (g1.fnone n) (g1.snone n) k2.reverse q1

/-! ### list + list, list * int, as new lists -/
def mCatF (ma mb : M D) : M (List D) := fun en Q => ma en fun x => mb en fun y => match x, y with
  | .lst xs, .lst ys => xs.length + ys.length ≤ sizeLine ∧ Q (xs ++ ys)
  | _, _ => False
theorem pf_cat (ha : PB X a ma) (hb : PB X b mb) : PF X (.BinOp a .Add b pos) (mCatF ma mb) := by
  obtain ⟨ta, h1, h2⟩ := ha.ex
  obtain ⟨tb, h3, h4⟩ := hb.ex
  refine ⟨_, fun i => pe_op op_cat (h1 i) (h3 i), fun B G en σ H Q k r q c => h2 B G en σ H _ _ r q fun v H1 G1 d s1 g1 r1 q1 => h4 B G1 en σ H1 _ _ (r.step s1 g1) q1 fun w H2 G2 d2 s2 g2 r2 q2 => ?_⟩
  have s12 := s1.trans s2
  have r1' := r1.step s2
  cases d <;> cases d2 <;> try exact False.elim q2
  obtain ⟨a, vs, e, k1, _, k2⟩ := r1'
  obtain ⟨a', vs', e', k1', _, k2'⟩ := r2
  subst e
  subst e'
  have l1 := k2.length
  have l2 := k2'.length
  refine ⟨a, a', vs, vs', rfl, rfl, k1, k1', by rw [← l1, ← l2]; exact q2.1, fun p n => ?_⟩
  exact c p _ _ G2 _ (s12.trans (Step.new n)) (g2.new n) (there_none s12 n) upd_same (g2.fnone n) (g2.snone n) (k2.append k2') q2.2
def mRepF (ma mb : M D) : M (List D) := fun en Q => ma en fun x => mb en fun y => match x, y with
  | .lst xs, .int j => -(2 ^ 63) ≤ j ∧ j < 2 ^ 63 ∧ xs.length * j.toNat ≤ sizeLine ∧ Q (List.replicate j.toNat xs).flatten
  | _, _ => False
theorem pf_rep (ha : PB X a ma) (hb : PB X b mb) : PF X (.BinOp a .Mult b pos) (mRepF ma mb) := by
  obtain ⟨ta, h1, h2⟩ := ha.ex
  obtain ⟨tb, h3, h4⟩ := hb.ex
  refine ⟨_, fun i => pe_op op_rep (h1 i) (h3 i), fun B G en σ H Q k r q c => h2 B G en σ H _ _ r q fun v H1 G1 d s1 g1 r1 q1 => h4 B G1 en σ H1 _ _ (r.step s1 g1) q1 fun w H2 G2 d2 s2 g2 r2 q2 => ?_⟩
  have s12 := s1.trans s2
  have r1' := r1.step s2
  cases d <;> cases d2 <;> try exact False.elim q2
  obtain ⟨a, vs, e, k1, _, k2⟩ := r1'
  subst e
  cases r2
  have l1 := k2.length
  refine ⟨a, _, vs, rfl, rfl, k1, q2.1, q2.2.1, by rw [← l1]; exact q2.2.2.1, fun p n => ?_⟩
  exact c p _ _ G2 _ (s12.trans (Step.new n)) (g2.new n) (there_none s12 n) upd_same (g2.fnone n) (g2.snone n) (k2.rep _) q2.2.2.2
end
end DL

set_option Elab.async false
set_option linter.all false
set_option maxRecDepth 100000
namespace DL
open PySem PySem.Spec PyProof.Rows L2
section
variable {X : Cx} {K : Frg}
theorem rb1 {G : Gh} {H : Hp} {d : D} {ds : List D} {vs : List V} (h : RepBL G H (d :: ds) vs) : ∃ v r, vs = v :: r ∧ RepB G H d v ∧ RepBL G H ds r := h
/-- len -/
def mLen : List D → (D → Prop) → Prop
  | [.lst xs], Q => Q (.int xs.length)
  | [.tup xs], Q => Q (.int xs.length)
  | [.str z], Q => z.length ≤ sizeLine ∧ Q (.int z.length)
  | _, _ => False
def rLenA (K : Frg) : List V → Hp → VK → Prop := fun xs H Q => (∃ p ys, xs = [.ref p] ∧ (SqL K H p ys ∨ SqT K H p ys) ∧ Q (.int ys.length) H) ∨ ∃ z, xs = [.str z] ∧ z.length ≤ sizeLine ∧ Q (.int z.length) H
theorem call_lenA (hK : X.K = K) : CallR X (.builtin "len") (rLenA K) := by
  subst hK
  exact CallR.or call_len_seq call_len_str
theorem cs_len : CallS (rLenA K) mLen := by
  intro G H vs ds Q k g r q c
  match ds, r, q with
  | [.lst xs], ⟨v, _, e, h, e'⟩, q =>
    subst e
    cases e'
    obtain ⟨a, ws, e, h1, h2, h3⟩ := h
    subst e
    refine .inl ⟨a, ws, rfl, .inl (SqL.of h1), ?_⟩
    rw [← h3.length]
    exact c _ H G (.int xs.length) (Step.refl _ _) g rfl q
  | [.tup xs], ⟨v, _, e, h, e'⟩, q =>
    subst e
    cases e'
    obtain ⟨a, ws, e, h1, h3⟩ := h
    subst e
    refine .inl ⟨a, ws, rfl, .inr (SqT.of (g.f _ _ h1)), ?_⟩
    rw [← h3.length]
    exact c _ H G (.int xs.length) (Step.refl _ _) g rfl q
  | [.str z], ⟨v, _, e, h, e'⟩, q =>
    subst e
    cases e'
    cases h
    exact .inr ⟨z, rfl, q.1, c _ H G (.int z.length) (Step.refl _ _) g rfl q.2⟩
/-- abs, int, max and min of two -/
def mAbs : List D → (D → Prop) → Prop
  | [.int i], Q => Q (.int (if i < 0 then -i else i))
  | _, _ => False
theorem cs_abs : CallS (fun xs H Q => ∃ i, xs = [.int i] ∧ Q (.int (if i < 0 then -i else i)) H) mAbs := by
  intro G H vs ds Q k g r q c
  match ds, r, q with
  | [.int i], ⟨v, _, e, h, e'⟩, q =>
    subst e
    cases e'
    cases h
    exact ⟨i, rfl, c _ H G (.int (if i < 0 then -i else i)) (Step.refl _ _) g rfl q⟩
def mInt : List D → (D → Prop) → Prop
  | [.int i], Q => Q (.int i)
  | [.bl b], Q => Q (.int (if b then 1 else 0))
  | _, _ => False
theorem cs_int : CallS (fun xs H Q => (∃ i, xs = [.int i] ∧ Q (.int i) H) ∨ ∃ k, xs = [.bl k] ∧ Q (.int (if k then 1 else 0)) H) mInt := by
  intro G H vs ds Q k g r q c
  match ds, r, q with
  | [.int i], ⟨v, _, e, h, e'⟩, q =>
    subst e
    cases e'
    cases h
    exact .inl ⟨i, rfl, c _ H G (.int i) (Step.refl _ _) g rfl q⟩
  | [.bl b], ⟨v, _, e, h, e'⟩, q =>
    subst e
    cases e'
    cases h
    exact .inr ⟨b, rfl, c _ H G (.int (if b then 1 else 0)) (Step.refl _ _) g rfl q⟩
def mMax2 : List D → (D → Prop) → Prop
  | [.int i, .int j], Q => Q (.int (if j > i then j else i))
  | _, _ => False
theorem cs_max2 : CallS (fun xs H Q => ∃ i j, xs = [.int i, .int j] ∧ Q (.int (if j > i then j else i)) H) mMax2 := by
  intro G H vs ds Q k g r q c
  match ds, r, q with
  | [.int i, .int j], ⟨v, _, e, h, w, _, e', h', e''⟩, q =>
    subst e
    subst e'
    cases e''
    cases h
    cases h'
    exact ⟨i, j, rfl, c _ H G (.int (if j > i then j else i)) (Step.refl _ _) g rfl q⟩
def mMin2 : List D → (D → Prop) → Prop
  | [.int i, .int j], Q => Q (.int (if j < i then j else i))
  | _, _ => False
theorem cs_min2 : CallS (fun xs H Q => ∃ i j, xs = [.int i, .int j] ∧ Q (.int (if j < i then j else i)) H) mMin2 := by
  intro G H vs ds Q k g r q c
  match ds, r, q with
  | [.int i, .int j], ⟨v, _, e, h, w, _, e', h', e''⟩, q =>
    subst e
    subst e'
    cases e''
    cases h
    cases h'
    exact ⟨i, j, rfl, c _ H G (.int (if j < i then j else i)) (Step.refl _ _) g rfl q⟩
/-- lists of ints, of truth values -/
def ints? : List D → Option (List Int)
  | [] => some []
  | .int i :: r => (ints? r).map (i :: ·)
  | _ => none
def bls? : List D → Option (List Bool)
  | [] => some []
  | .bl i :: r => (bls? r).map (i :: ·)
  | _ => none
theorem ints?_map : ∀ ns : List Int, ints? (ns.map .int) = some ns
  | [] => rfl
  | n :: ns => by
    show (ints? (ns.map .int)).map (n :: ·) = _
    rw [ints?_map ns]
    rfl
theorem bls?_map : ∀ ns : List Bool, bls? (ns.map .bl) = some ns
  | [] => rfl
  | n :: ns => by
    show (bls? (ns.map .bl)).map (n :: ·) = _
    rw [bls?_map ns]
    rfl
theorem ints?_inv : ∀ {ds : List D} {ns : List Int}, ints? ds = some ns → ds = ns.map .int
  | [], _, h => by cases h; rfl
  | d :: ds, ns, h => by
    cases d <;> try (cases h; done)
    rename_i i
    have h' : (ints? ds).map (i :: ·) = some ns := h
    cases e : ints? ds with
    | none =>
      rw [e] at h'
      cases h'
    | some ms =>
      rw [e] at h'
      cases h'
      rw [ints?_inv e]
      rfl
theorem bls?_inv : ∀ {ds : List D} {ns : List Bool}, bls? ds = some ns → ds = ns.map .bl
  | [], _, h => by cases h; rfl
  | d :: ds, ns, h => by
    cases d <;> try (cases h; done)
    rename_i i
    have h' : (bls? ds).map (i :: ·) = some ns := h
    cases e : bls? ds with
    | none =>
      rw [e] at h'
      cases h'
    | some ms =>
      rw [e] at h'
      cases h'
      rw [bls?_inv e]
      rfl
def mInts (f : List Int → (D → Prop) → Prop) : List D → (D → Prop) → Prop
  | [.lst xs], Q => (match ints? xs with | some ns => f ns Q | none => False)
  | _, _ => False
def mBls (f : List Bool → (D → Prop) → Prop) : List D → (D → Prop) → Prop
  | [.lst xs], Q => (match bls? xs with | some ns => f ns Q | none => False)
  | _, _ => False
theorem mInts_inv {f : List Int → (D → Prop) → Prop} {G : Gh} {H : Hp} {ds : List D} {vs : List V} {Q : D → Prop} (r : RepBL G H ds vs) (q : mInts f ds Q) : ∃ a ns, vs = [.ref a] ∧ H a = some (.lst (ns.map V.int)) ∧ f ns Q := by
  match ds, r, q with
  | [.lst xs], ⟨v, _, e, h, e'⟩, q =>
    subst e
    cases e'
    obtain ⟨a, ws, e, h1, h2, h3⟩ := h
    subst e
    have q' : (match ints? xs with | some ns => f ns Q | none => False) := q
    cases e : ints? xs with
    | none =>
      rw [e] at q'
      exact False.elim q'
    | some ns =>
      rw [e] at q'
      have e2 := ints?_inv e
      subst e2
      rw [RepL.ints_inv h3] at h1
      exact ⟨a, ns, rfl, h1, q'⟩
theorem mBls_inv {f : List Bool → (D → Prop) → Prop} {G : Gh} {H : Hp} {ds : List D} {vs : List V} {Q : D → Prop} (r : RepBL G H ds vs) (q : mBls f ds Q) : ∃ a ns, vs = [.ref a] ∧ H a = some (.lst (ns.map V.bl)) ∧ f ns Q := by
  match ds, r, q with
  | [.lst xs], ⟨v, _, e, h, e'⟩, q =>
    subst e
    cases e'
    obtain ⟨a, ws, e, h1, h2, h3⟩ := h
    subst e
    have q' : (match bls? xs with | some ns => f ns Q | none => False) := q
    cases e : bls? xs with
    | none =>
      rw [e] at q'
      exact False.elim q'
    | some ns =>
      rw [e] at q'
      have e2 := bls?_inv e
      subst e2
      rw [RepL.bls_inv h3] at h1
      exact ⟨a, ns, rfl, h1, q'⟩
def rSumA (K : Frg) : List V → Hp → VK → Prop := fun vs H Q => rSum K vs H Q ∨ ∃ (a : Addr) (ns : List Int), vs = [V.ref a] ∧ SqT K H a (ns.map V.int) ∧ Q (.int ns.sum) H
theorem call_sumT (hc : X.calm = true) : CallR X (.builtin "sum") (fun vs H Q => ∃ (a : Addr) (ns : List Int), vs = [V.ref a] ∧ SqT X.K H a (ns.map V.int) ∧ Q (.int ns.sum) H) := by
  intro pins s σ H vs us Q I r h
  obtain ⟨a, ns, rfl, hs, q⟩ := h
  obtain ⟨its, rv, hl, _⟩ := I.tuple hs
  have hi : IntsAre its ns := rv.ints
  have hl' : s.heap.IsTuple a its.toArray := hl
  rw [Vals.ref1 r]
  obtain ⟨xs, hx⟩ := hi.allInts.items
  have hn : numsOf (intItems xs).toList = ns := by
    rw [← hx]
    exact hi.numsOf
  rw [nums_intItems] at hn
  rw [hx] at hl'
  refine PySem.W.ktm_sumG (I.ok.hd hc) hl' fun h' tk t' hk => ?_
  rw [preSum_eq, List.take_of_length_le (by simp), hn]
  exact ⟨.int ns.sum, H, I.kept hk, ⟨_, rfl⟩, q⟩
def mSum : List D → (D → Prop) → Prop
  | [.lst xs], Q => (match ints? xs with | some ns => Q (.int ns.sum) | none => False)
  | [.tup xs], Q => (match ints? xs with | some ns => Q (.int ns.sum) | none => False)
  | _, _ => False
theorem cs_sum : CallS (rSumA K) mSum := by
  intro G H vs ds Q k g r q c
  match ds, r, q with
  | [.lst xs], r, q =>
    obtain ⟨a, ns, e, h, q'⟩ := mInts_inv (f := fun ns Q => Q (.int ns.sum)) r q
    exact .inl ⟨a, ns, e, SqL.of h, c _ H G (.int ns.sum) (Step.refl _ _) g rfl q'⟩
  | [.tup xs], ⟨v, _, e, h, e'⟩, q =>
    subst e
    cases e'
    obtain ⟨a, ws, e, h1, h3⟩ := h
    subst e
    have q' : (match ints? xs with | some ns => Q (.int ns.sum) | none => False) := q
    cases e : ints? xs with
    | none =>
      rw [e] at q'
      exact False.elim q'
    | some ns =>
      rw [e] at q'
      have e2 := ints?_inv e
      subst e2
      rw [RepL.ints_inv h3] at h1
      exact .inr ⟨a, ns, rfl, SqT.of (g.f _ _ h1), c _ H G (.int ns.sum) (Step.refl _ _) g rfl q'⟩
def mMax := mInts fun ns Q => 0 < ns.length ∧ ∀ m, m ∈ ns → (∀ y, y ∈ ns → y ≤ m) → Q (.int m)
theorem cs_max : CallS (rMax K) mMax := fun G H vs ds Q k g r q c =>
  let ⟨a, ns, e, h, q'⟩ := mInts_inv r q
  ⟨a, ns, e, SqL.of h, q'.1, fun m h1 h2 => c _ H G (.int m) (Step.refl _ _) g rfl (q'.2 m h1 h2)⟩
def mMin := mInts fun ns Q => 0 < ns.length ∧ ∀ m, m ∈ ns → (∀ y, y ∈ ns → m ≤ y) → Q (.int m)
theorem cs_min : CallS (rMin K) mMin := fun G H vs ds Q k g r q c =>
  let ⟨a, ns, e, h, q'⟩ := mInts_inv r q
  ⟨a, ns, e, SqL.of h, q'.1, fun m h1 h2 => c _ H G (.int m) (Step.refl _ _) g rfl (q'.2 m h1 h2)⟩
def mAny := mBls fun ns Q => Q (.bl (ns.any id))
theorem cs_any : CallS (rAny K) mAny := fun G H vs ds Q k g r q c =>
  let ⟨a, ns, e, h, q'⟩ := mBls_inv r q
  ⟨a, ns, e, SqL.of h, c _ H G (.bl (ns.any id)) (Step.refl _ _) g rfl q'⟩
def mAll := mBls fun ns Q => Q (.bl (ns.all id))
theorem cs_all : CallS (rAll K) mAll := fun G H vs ds Q k g r q c =>
  let ⟨a, ns, e, h, q'⟩ := mBls_inv r q
  ⟨a, ns, e, SqL.of h, c _ H G (.bl (ns.all id)) (Step.refl _ _) g rfl q'⟩
theorem call_sumA (hK : X.K = K) (hc : X.calm = true) : CallR X (.builtin "sum") (rSumA K) := by subst hK; exact CallR.or (cr_sum hc) (call_sumT hc)
theorem call_maxA (hK : X.K = K) (hc : X.calm = true) : CallR X (.builtin "max") (rMax K) := by subst hK; exact cr_max hc
theorem call_minA (hK : X.K = K) (hc : X.calm = true) : CallR X (.builtin "min") (rMin K) := by subst hK; exact cr_min hc
theorem call_anyA (hK : X.K = K) (hc : X.calm = true) : CallR X (.builtin "any") (rAny K) := by subst hK; exact cr_any hc
theorem call_allA (hK : X.K = K) (hc : X.calm = true) : CallR X (.builtin "all") (rAll K) := by subst hK; exact cr_all hc
/-- sorted(ints) -/
def mSortF : List D → (List D → Prop) → Prop
  | [.lst xs], Q => (match ints? xs with | some ns => ∀ ms : List Int, ms.Perm ns → ms.Pairwise (· ≤ ·) → Q (ms.map .int) | none => False)
  | _, _ => False
theorem call_sortA (hK : X.K = K) : CallR X (.builtin "sorted") (rSortedI K) := by subst hK; exact cr_sortedI
theorem cf_sort : CallF (rSortedI K) mSortF := by
  intro G H vs ds Q k g r q c
  match ds, r, q with
  | [.lst xs], ⟨v, _, e, h, e'⟩, q =>
    subst e
    cases e'
    obtain ⟨a, ws, e, h1, h2, h3⟩ := h
    subst e
    have q' : (match ints? xs with | some ns => ∀ ms : List Int, ms.Perm ns → ms.Pairwise (· ≤ ·) → Q (ms.map .int) | none => False) := q
    cases e : ints? xs with
    | none =>
      rw [e] at q'
      exact False.elim q'
    | some ns =>
      rw [e] at q'
      have e2 := ints?_inv e
      subst e2
      rw [RepL.ints_inv h3] at h1
      exact ⟨a, ns, rfl, SqL.of h1, fun ms p hp hs n => c p _ _ G (ms.map .int) (Step.new n) (g.new n) n upd_same (g.fnone n) (g.snone n) (RepL.ints ms) (q' ms hp hs)⟩
/-- tuple(x), list(x) of a list or a tuple -/
def rTupA (K : Frg) : List V → Hp → VK → Prop := fun xs H Q => ∃ p ys, xs = [.ref p] ∧ ((SqL K H p ys ∧ ∀ l, H l = none → Q (.ref l) (upd H l (.tup ys))) ∨ (SqT K H p ys ∧ Q (.ref p) H))
theorem call_tupA (hK : X.K = K) : CallR X (.type "tuple") (rTupA K) := by subst hK; exact call_tuple_of
def mTuple : List D → (D → Prop) → Prop
  | [.lst xs], Q => Q (.tup xs)
  | [.tup xs], Q => Q (.tup xs)
  | _, _ => False
theorem cs_tuple : CallS (rTupA K) mTuple := by
  intro G H vs ds Q k g r q c
  match ds, r, q with
  | [.lst xs], ⟨v, _, e, h, e'⟩, q =>
    subst e
    cases e'
    obtain ⟨a, ws, e, h1, h2, h3⟩ := h
    subst e
    refine ⟨a, ws, rfl, .inl ⟨SqL.of h1, fun p n => ?_⟩⟩
    obtain ⟨s, g', r⟩ := new_tup g n h3
    exact c _ _ _ _ s g' r q
  | [.tup xs], ⟨v, _, e, h, e'⟩, q =>
    subst e
    cases e'
    obtain ⟨a, ws, e, h1, h3⟩ := h
    subst e
    exact ⟨a, ws, rfl, .inr ⟨SqT.of (g.f _ _ h1), c _ H G (.tup xs) (Step.refl _ _) g ⟨a, ws, rfl, h1, h3⟩ q⟩⟩
def rLstA (K : Frg) : List V → Hp → VK → Prop := fun xs H Q => ∃ p ys, xs = [.ref p] ∧ (SqL K H p ys ∨ SqT K H p ys) ∧ ∀ l, H l = none → Q (.ref l) (upd H l (.lst ys))
theorem call_lstA (hK : X.K = K) : CallR X (.type "list") (rLstA K) := by subst hK; exact call_list_of
def mList : List D → (List D → Prop) → Prop
  | [.lst xs], Q => Q xs
  | [.tup xs], Q => Q xs
  | _, _ => False
theorem cf_list : CallF (rLstA K) mList := by
  intro G H vs ds Q k g r q c
  match ds, r, q with
  | [.lst xs], ⟨v, _, e, h, e'⟩, q =>
    subst e
    cases e'
    obtain ⟨a, ws, e, h1, h2, h3⟩ := h
    subst e
    exact ⟨a, ws, rfl, .inl (SqL.of h1), fun p n => c p ws _ G xs (Step.new n) (g.new n) n upd_same (g.fnone n) (g.snone n) h3 q⟩
  | [.tup xs], ⟨v, _, e, h, e'⟩, q =>
    subst e
    cases e'
    obtain ⟨a, ws, e, h1, h3⟩ := h
    subst e
    exact ⟨a, ws, rfl, .inr (SqT.of (g.f _ _ h1)), fun p n => c p ws _ G xs (Step.new n) (g.new n) n upd_same (g.fnone n) (g.snone n) h3 q⟩
/-- isinstance -/
def tyN : D → String
  | .non => "NoneType"
  | .bl _ => "bool"
  | .int _ => "int"
  | .str _ => "str"
  | .tup _ => "tuple"
  | .lst _ => "list"
  | .src => "dict"
  | .ty _ => "type"
  | .dct _ _ => "dict"
def isTy : D → Bool
  | .ty _ => true
  | _ => false
theorem tyX_of {G : Gh} {H : Hp} (g : GRel G H) {d : D} {v : V} (n : isTy d = false) (h : RepB G H d v) : TyX K H v (.type (tyN d)) := by
  cases d with
  | non => cases h; exact .base .non
  | bl b => cases h; exact .base (.bl b)
  | int i => cases h; exact .base (.int i)
  | str x => cases h; exact .base (.str x)
  | tup xs => obtain ⟨a, ws, e, h1, h3⟩ := h; subst e; exact .base (.tup (g.f _ _ h1))
  | lst xs => obtain ⟨a, ws, e, h1, h2, h3⟩ := h; subst e; exact .base (.lst h1)
  | src =>
    obtain ⟨p, h1, e⟩ := h
    subst e
    obtain ⟨_, _, _, _, h2, _⟩ := (g.s p h1).2.2.2
    exact .base (.dK h2)
  | ty n' => cases n
  | dct ks xs =>
    obtain ⟨a, o, ws, e, h1, _, h3, _⟩ := h
    subst e
    rcases h3 with ⟨kvs, rfl, _⟩ | ⟨kvs, rfl, _⟩
    · exact .base (.dK h1)
    · exact .base (.dT h1)
def mIsi : List D → (D → Prop) → Prop
  | [d, .ty n], Q => isTy d = false ∧ (match kitB (tyN d) n with | some b => Q (.bl b) | none => False)
  | _, _ => False
theorem call_isiA (hK : X.K = K) : CallR X (.builtin "isinstance") (rIsi K) := by subst hK; exact call_isi
theorem cs_isi : CallS (rIsi K) mIsi := by
  intro G H vs ds Q k g r q c
  match ds, r, q with
  | [d, .ty n], ⟨v, _, e, h, w, _, e', h', e''⟩, q =>
    subst e
    subst e'
    cases e''
    cases h'
    have q' := q.2
    cases e : kitB (tyN d) n with
    | none =>
      rw [e] at q'
      exact False.elim q'
    | some b =>
      rw [e] at q'
      exact ⟨v, .ty n, _, _, b, rfl, .ty n, tyX_of g q.1 h, kit_ty e, c _ H G (.bl b) (Step.refl _ _) g rfl q'⟩
/-! ### repr -/
mutual
def shw : D → Bool
  | .int i => decide (i.natAbs.log2 < 1920)
  | .tup xs | .lst xs => shwL xs
  | .src | .ty _ | .dct _ _ => false
  | _ => true
def shwL : List D → Bool
  | [] => true
  | x :: xs => shw x && shwL xs
end
mutual
/-- at least the length of the written form -/
def sz : D → Nat
  | .int i => i.natAbs.log2 + 2
  | .str x => (reprText x).length
  | .tup xs | .lst xs => szL xs + 3
  | _ => 5
def szL : List D → Nat
  | [] => 0
  | x :: xs => sz x + 2 + szL xs
end
mutual
theorem shw_py : ∀ d : D, shw d = true → (toPy d).showable = true ∧ (toPy d).hasDict = false
  | .non, _ => ⟨rfl, rfl⟩
  | .bl _, _ => ⟨rfl, rfl⟩
  | .str _, _ => ⟨rfl, rfl⟩
  | .int i, h => ⟨h, rfl⟩
  | .tup xs, h => shwL_py xs h
  | .lst xs, h => shwL_py xs h
  | .src, h => by cases h
  | .ty _, h => by cases h
  | .dct _ _, h => by cases h
theorem shwL_py : ∀ ds : List D, shwL ds = true → PyData.showableAll (toPyL ds) = true ∧ PyData.hasDictAll (toPyL ds) = false
  | [], _ => ⟨rfl, rfl⟩
  | d :: ds, h => by
    have h' : (shw d && shwL ds) = true := h
    rw [Bool.and_eq_true] at h'
    obtain ⟨a1, a2⟩ := shw_py d h'.1
    obtain ⟨b1, b2⟩ := shwL_py ds h'.2
    constructor
    · show (PyData.showable (toPy d) && PyData.showableAll (toPyL ds)) = true
      rw [a1, b1]
      rfl
    · show (PyData.hasDict (toPy d) || PyData.hasDictAll (toPyL ds)) = false
      rw [a2, b2]
      rfl
end
theorem shown_len_int (i : Int) : ((PyData.int i).shown).length ≤ i.natAbs.log2 + 2 := by
  show (Str.ofString (toString i)).length ≤ _
  have h := int_text_length_le (a := i) (k := i.natAbs.log2 + 1) (Nat.succ_pos _) (Nat.lt_succ_self _)
  have e : (Str.ofString (toString i)).length = (toString i).length := PySem.ofString_length _
  rw [e]
  exact h
mutual
theorem sz_py : ∀ d : D, shw d = true → (toPy d).shown.length ≤ sz d
  | .non, _ => by decide
  | .bl b, _ => by cases b <;> decide
  | .str x, _ => Nat.le_refl _
  | .int i, _ => shown_len_int i
  | .tup xs, h => by
    have ih := szL_py xs h
    have hh := tupleText_len_le (PyData.shownAll (toPyL xs))
    show (tupleText (PyData.shownAll (toPyL xs))).length ≤ szL xs + 3
    omega
  | .lst xs, h => by
    have ih := szL_py xs h
    have hh := listText_len_le (PyData.shownAll (toPyL xs))
    show (listText (PyData.shownAll (toPyL xs))).length ≤ szL xs + 3
    omega
  | .src, h => by cases h
  | .ty _, h => by cases h
  | .dct _ _, h => by cases h
theorem szL_py : ∀ ds : List D, shwL ds = true → ((PyData.shownAll (toPyL ds)).map (·.length)).sum + 2 * (PyData.shownAll (toPyL ds)).length ≤ szL ds
  | [], _ => Nat.zero_le _
  | d :: ds, h => by
    have h' : (shw d && shwL ds) = true := h
    rw [Bool.and_eq_true] at h'
    have a := sz_py d h'.1
    have b := szL_py ds h'.2
    show ((PyData.shown (toPy d) :: PyData.shownAll (toPyL ds)).map (·.length)).sum + 2 * (PyData.shown (toPy d) :: PyData.shownAll (toPyL ds)).length ≤ sz d + 2 + szL ds
    rw [List.map_cons, List.sum_cons, List.length_cons]
    omega
end
def txt (d : D) : Str := (toPy d).shown
def rReprD (K : Frg) : List V → Hp → VK → Prop := fun xs H Q => ∃ x d, xs = [x] ∧ Dp K H x d ∧ d.showable = true ∧ d.hasDict = false ∧ d.shown.length ≤ sizeLine ∧ d.depth ≤ 60 ∧ Q (.str d.shown) H
theorem call_reprA (hK : X.K = K) {k : Nat} (hr : Room k X.A) (hG : X.A.guards = some []) : CallR X (.builtin "repr") (rReprD K) := by
  subst hK
  intro pins s σ H xs us Q I r h
  obtain ⟨x, d, rfl, hd, h1, h2, h3, h4, q⟩ := h
  obtain ⟨u, rfl, ru⟩ := vals1 r
  have hu := hr.un
  cases hd with
  | non =>
    cases ru
    exact PySem.P.repr_of_none ⟨.str _, H, I.tok _, ⟨_, rfl⟩, q⟩
  | bl b =>
    cases ru
    exact PySem.P.repr_of_bool ⟨.str _, H, I.tok _, ⟨_, rfl⟩, q⟩
  | int i =>
    obtain ⟨t, rfl⟩ := ru
    exact PySem.P.repr_of_int (of_decide_eq_true h1) ⟨.str _, H, I.tok _, ⟨_, rfl⟩, q⟩
  | str y =>
    obtain ⟨t, rfl⟩ := ru
    exact PySem.P.repr_of_str ⟨.str _, H, I.tok _, ⟨_, rfl⟩, q⟩ h3
  | lst a b =>
    cases ru
    obtain ⟨as, rd⟩ := Dp.reads I _ _ _ (Dp.lst a b) rfl
    refine repr_of_reads' rd h1 (fun z => by rw [h2] at z; cases z) hG (by omega) (fun _ _ e => e) (fun h' u tk hk => ?_) h3
    exact ⟨.str _, H, I.kept (t' := tk) hk, ⟨u, rfl⟩, q⟩
  | tup a b =>
    cases ru
    obtain ⟨as, rd⟩ := Dp.reads I _ _ _ (Dp.tup a b) rfl
    refine repr_of_reads' rd h1 (fun z => by rw [h2] at z; cases z) hG (by omega) (fun _ _ e => e) (fun h' u tk hk => ?_) h3
    exact ⟨.str _, H, I.kept (t' := tk) hk, ⟨u, rfl⟩, q⟩
def mRepr : List D → (D → Prop) → Prop
  | [d], Q => okd 60 d = true ∧ shw d = true ∧ sz d ≤ sizeLine ∧ Q (.str (txt d))
  | _, _ => False
theorem cs_repr : CallS (rReprD K) mRepr := by
  intro G H vs ds Q k g r q c
  match ds, r, q with
  | [d], ⟨v, _, e, h, e'⟩, q =>
    subst e
    cases e'
    obtain ⟨q1, q2, q3, q4⟩ := q
    obtain ⟨s1, s2⟩ := shw_py d q2
    exact ⟨v, toPy d, rfl, RepB.dp g q1 h, s1, s2, Nat.le_trans (sz_py d q2) q3, (okd_lay 60 d q1).2, c _ H G (.str (txt d)) (Step.refl _ _) g rfl q4⟩
end
end DL

set_option Elab.async false
set_option linter.all false
set_option maxRecDepth 100000
namespace DL
open PySem PySem.Spec PyProof.Rows L2

/-! ### what is walked -/
def WalkR (R : Gh → Hp → Prop) (J : It) (xs : List D) : Prop := ∀ (i : Nat) (G1 : Gh) (H1 : Hp), R G1 H1 → GRel G1 H1 →
  (i < xs.length → J.go i H1) ∧ (xs.length ≤ i → J.stop i H1) ∧ ∀ (x : V) (H2 : Hp) (d : D), xs[i]? = some d → J.yld i H1 x H2 → ∃ G2, Step G1 H1 G2 H2 ∧ GRel G2 H2 ∧ Rep G2 d x
def SemI (t : TI) (m : M (List D)) : Prop := ∀ (B : Bs) (G : Gh) (en : En) (σ : L2.St) (H : Hp) (Q : List D → Prop) (k : It → Hp → Prop), Rel B G en σ H → m en Q →
  (∀ J H' G' xs, Step G H G' H' → GRel G' H' → WalkR (fun G1 _ => Gle G' G1) J xs → Q xs → k J H') → t σ H k
def SemIB (t : TI) (m : M (List D)) : Prop := ∀ (B : Bs) (G : Gh) (en : En) (σ : L2.St) (H : Hp) (Q : List D → Prop) (k : It → Hp → Prop), Rel B G en σ H → m en Q →
  (∀ J H' G' xs, Step G H G' H' → GRel G' H' → WalkR (fun G1 H1 => Step G' H' G1 H1) J xs → Q xs → k J H') → t σ H k
def iSeq (K : Frg) (te : TE) : TI := fun σ H R => te σ H fun x H1 => (∃ a xs, x = .ref a ∧ SqL K H1 a xs ∧ R (Itl K a) H1) ∨ ∃ a xs, x = .ref a ∧ SqT K H1 a xs ∧ R (Itt K a) H1
theorem pi_seq {X : Cx} {tg l : Expr} {te : TE} (h : PE X l te) : PI X tg l (iSeq X.K te) := by
  constructor
  intro pins s σ H R I q
  refine thn (h.run pins s σ H _ I q) fun v s1 z => ?_
  obtain ⟨x, H1, I1, r1, q1⟩ := z
  have fp : ∀ b ∈ [s1.heap.objs.size], FpOk X pins H1 b := fun b hb => by
    have e : b = s1.heap.objs.size := List.mem_singleton.mp hb
    rw [e]
    exact I1.fpOk (Nat.le_refl _) (I1.hok.fresh (Nat.le_refl _))
  rcases q1 with ⟨a, xs, e, hq, qq⟩ | ⟨a, xs, e, hq, qq⟩
  · subst e
    cases r1
    obtain ⟨its, rv, p, hz⟩ := I1.list hq
    exact wpAny_pyIter_list p.isList ⟨_, _, _, _, H1, rfl, I1.kept (t' := s1.toks) fun b o e => Heap.get?_push_of_some _ e, turn_list a _, ⟨_, Heap.get?_push_size _ rfl, rfl, rfl⟩, fp, qq⟩
  · subst e
    cases r1
    obtain ⟨its, rv, p, hz⟩ := I1.tuple hq
    exact wpAny_pyIter_tuple p ⟨_, _, _, _, H1, rfl, I1.kept (t' := s1.toks) fun b o e => Heap.get?_push_of_some _ e, turn_tuple a _, ⟨_, Heap.get?_push_size _ rfl, rfl, rfl⟩, fp, qq⟩
section
variable {ι : Type}
structure PId (X : ι → Cx) (tg e : Expr) (m : M (List D)) : Prop where
  ex : ∃ t, (∀ i, PI (X i) tg e t) ∧ SemI t m
structure PIB (X : ι → Cx) (tg e : Expr) (m : M (List D)) : Prop where
  ex : ∃ t, (∀ i, PI (X i) tg e t) ∧ SemIB t m
variable {X : ι → Cx} {K : Frg} {tg e e2 : Expr} {m ma mb : M D} {mr : M (List D)} {pos p tpos : Pos}
theorem PId.br (h : PId X tg e mr) : PIB X tg e mr := by
  obtain ⟨t, h1, h2⟩ := h.ex
  exact ⟨t, h1, fun B G en σ H Q k r q c => h2 B G en σ H Q k r q fun J H' G' xs s g w q => c J H' G' xs s g (fun i G1 H1 r1 => w i G1 H1 r1.le) q⟩
/-- the items of a list or tuple -/
def mSeq (m : M D) : M (List D) := fun en Q => m en fun x => match x with
  | .lst xs => Q xs
  | .tup xs => Q xs
  | _ => False
theorem walk_l {R : Gh → Hp → Prop} {a : Addr} {vs : List V} {xs : List D} (h : ∀ G1 H1, R G1 H1 → GRel G1 H1 → SqL K H1 a vs ∧ RepL G1 xs vs) : WalkR R (Itl K a) xs := by
  intro i G1 H1 r g
  obtain ⟨h1, h2⟩ := h G1 H1 r g
  refine ⟨fun hi => ?_, fun hi => ⟨vs, h1, by rw [← h2.length]; exact hi⟩, fun x H2 d hd hy => ?_⟩
  · obtain ⟨v, hv, _⟩ := h2.get (List.getElem?_eq_getElem hi)
    exact ⟨vs, v, h1, hv⟩
  · obtain ⟨e1, e2⟩ := hy
    subst e1
    obtain ⟨v, hv, rv⟩ := h2.get hd
    have e3 := e2 vs h1
    rw [hv] at e3
    cases e3
    exact ⟨G1, Step.refl _ _, g, rv⟩
theorem walk_t {R : Gh → Hp → Prop} {a : Addr} {vs : List V} {xs : List D} (h : ∀ G1 H1, R G1 H1 → GRel G1 H1 → SqT K H1 a vs ∧ RepL G1 xs vs) : WalkR R (Itt K a) xs := by
  intro i G1 H1 r g
  obtain ⟨h1, h2⟩ := h G1 H1 r g
  refine ⟨fun hi => ?_, fun hi => ⟨vs, h1, by rw [← h2.length]; exact hi⟩, fun x H2 d hd hy => ?_⟩
  · obtain ⟨v, hv, _⟩ := h2.get (List.getElem?_eq_getElem hi)
    exact ⟨vs, v, h1, hv⟩
  · obtain ⟨e1, e2⟩ := hy
    subst e1
    obtain ⟨v, hv, rv⟩ := h2.get hd
    have e3 := e2 vs h1
    rw [hv] at e3
    cases e3
    exact ⟨G1, Step.refl _ _, g, rv⟩
theorem pi_seqA {X : Cx} {te : TE} (hK : X.K = K) (h : PE X e te) : PI X tg e (iSeq K te) := by
  subst hK
  exact pi_seq h
theorem pid_seq (hK : ∀ i, (X i).K = K) (h : PD X e m) : PId X tg e (mSeq m) := by
  obtain ⟨t, h1, h2⟩ := h.ex
  refine ⟨_, fun i => pi_seqA (hK i) (h1 i), fun B G en σ H Q k r q c => h2 B G en σ H _ _ r q fun v H1 G1 d s1 g1 r1 q1 => ?_⟩
  cases d <;> try exact False.elim q1
  · obtain ⟨a, vs, e, k1, k2⟩ := r1
    subst e
    exact .inr ⟨a, vs, rfl, SqT.of (g1.f _ _ k1), c _ H1 G1 _ s1 g1 (walk_t fun G2 H2 l g2 => ⟨SqT.of (g2.f _ _ (l.f _ _ k1)), k2.mono l⟩) q1⟩
  · obtain ⟨a, vs, e, k1, k2⟩ := r1
    subst e
    exact .inl ⟨a, vs, rfl, SqL.of (g1.f _ _ k1), c _ H1 G1 _ s1 g1 (walk_l fun G2 H2 l g2 => ⟨SqL.of (g2.f _ _ (l.f _ _ k1)), k2.mono l⟩) q1⟩
theorem pib_seq (hK : ∀ i, (X i).K = K) (h : PB X e m) : PIB X tg e (mSeq m) := by
  obtain ⟨t, h1, h2⟩ := h.ex
  refine ⟨_, fun i => pi_seqA (hK i) (h1 i), fun B G en σ H Q k r q c => h2 B G en σ H _ _ r q fun v H1 G1 d s1 g1 r1 q1 => ?_⟩
  cases d <;> try exact False.elim q1
  · obtain ⟨a, vs, e, k1, k2⟩ := r1
    subst e
    exact .inr ⟨a, vs, rfl, SqT.of (g1.f _ _ k1), c _ H1 G1 _ s1 g1 (walk_t fun G2 H2 l g2 => ⟨SqT.of (g2.f _ _ (l.f _ _ k1)), k2.mono l.le⟩) q1⟩
  · obtain ⟨a, vs, e, k1, ks, k2⟩ := r1
    subst e
    exact .inl ⟨a, vs, rfl, SqL.of k1, c _ H1 G1 _ s1 g1 (walk_l fun G2 H2 l g2 => ⟨SqL.of (l.keep _ _ k1 ks), k2.mono l.le⟩) q1⟩
/-- ranges -/
def rng (lo : Int) (n : Nat) : List D := (List.range n).map fun (i : Nat) => D.int (lo + (i : Int))
def rngC (lo c : Int) (n : Nat) : List D := (List.range n).map fun (i : Nat) => D.int (lo + (i : Int) * c)
def rOk (i : Int) : Prop := -(2 ^ 62) ≤ i ∧ i < 2 ^ 62
def mR1 (m : M (List D)) : M (List D) := fun en Q => m en fun ds => match ds with
  | [.int j] => rOk j ∧ Q (rng 0 j.toNat)
  | _ => False
def mR2 (m : M (List D)) : M (List D) := fun en Q => m en fun ds => match ds with
  | [.int i, .int j] => rOk i ∧ rOk j ∧ Q (rng i (j - i).toNat)
  | _ => False
def mR3 (m : M (List D)) : M (List D) := fun en Q => m en fun ds => match ds with
  | [.int i, .int j, .int c] => ∃ n, RgC i j c n ∧ Q (rngC i c n)
  | _ => False
theorem walk_r {R : Gh → Hp → Prop} {lo : Int} {n : Nat} : WalkR R (Itr lo n) (rng lo n) := by
  intro i G1 H1 r g
  have hl : (rng lo n).length = n := by
    unfold rng
    rw [List.length_map, List.length_range]
  refine ⟨fun hi => by rw [hl] at hi; exact hi, fun hi => by rw [hl] at hi; exact hi, fun x H2 d hd hy => ?_⟩
  obtain ⟨e1, e2⟩ := hy
  subst e1
  subst e2
  have hi : i < n := by
    have := (List.getElem?_eq_some_iff.mp hd).1
    rw [hl] at this
    exact this
  unfold rng at hd
  rw [List.getElem?_map, List.getElem?_range hi] at hd
  cases hd
  exact ⟨G1, Step.refl _ _, g, rfl⟩
theorem walk_rc {R : Gh → Hp → Prop} {lo c : Int} {n : Nat} : WalkR R (Itc lo c n) (rngC lo c n) := by
  intro i G1 H1 r g
  have hl : (rngC lo c n).length = n := by
    unfold rngC
    rw [List.length_map, List.length_range]
  refine ⟨fun hi => by rw [hl] at hi; exact hi, fun hi => by rw [hl] at hi; exact hi, fun x H2 d hd hy => ?_⟩
  obtain ⟨e1, e2⟩ := hy
  subst e1
  subst e2
  have hi : i < n := by
    have := (List.getElem?_eq_some_iff.mp hd).1
    rw [hl] at this
    exact this
  unfold rngC at hd
  rw [List.getElem?_map, List.getElem?_range hi] at hd
  cases hd
  exact ⟨G1, Step.refl _ _, g, rfl⟩
theorem rb_int {G : Gh} {H : Hp} {i : Int} {v : V} (h : RepB G H (.int i) v) : v = .int i := h
theorem pid_r1 {a : Expr} (hg : ∀ i, Gl (X i) "range") (hm : ∀ i, (X i).mg "range" = none) (ha : PAB X [a] mr) (hs : ∀ i, starEach [a] (X i).env = [(false, eval a (X i).env)] := by intro _; rfl) : PId X tg (.Call (.Name "range" p) [a] [] pos) (mR1 mr) := by
  obtain ⟨t, h1, h2⟩ := ha.ex
  refine ⟨_, fun i => pi_range1 (hg i) (hm i) (h1 i) (hs i), fun B G en σ H Q k r q c => h2 B G en σ H _ _ r q fun vs H1 G1 ds s1 g1 r1 q1 => ?_⟩
  match ds, r1, q1 with
  | [.int j], ⟨v, _, e, h, e'⟩, q1 =>
    subst e
    cases e'
    cases h
    exact ⟨j, rfl, q1.1.1, q1.1.2, c _ H1 G1 _ s1 g1 walk_r q1.2⟩
theorem pid_r2 {a b : Expr} (hg : ∀ i, Gl (X i) "range") (hm : ∀ i, (X i).mg "range" = none) (ha : PAB X [a, b] mr) (hs : ∀ i, starEach [a, b] (X i).env = [(false, eval a (X i).env), (false, eval b (X i).env)] := by intro _; rfl)
    (hs2 : ∀ i, starEach [b] (X i).env = [(false, eval b (X i).env)] := by intro _; rfl) : PId X tg (.Call (.Name "range" p) [a, b] [] pos) (mR2 mr) := by
  obtain ⟨t, h1, h2⟩ := ha.ex
  refine ⟨_, fun i => pi_range2 (hg i) (hm i) (h1 i) (hs i) (hs2 i), fun B G en σ H Q k r q c => h2 B G en σ H _ _ r q fun vs H1 G1 ds s1 g1 r1 q1 => ?_⟩
  match ds, r1, q1 with
  | [.int i, .int j], ⟨v, _, e, h, w, _, e2, h', e'⟩, q1 =>
    subst e
    subst e2
    cases e'
    cases h
    cases h'
    exact ⟨i, j, rfl, ⟨q1.1.1, q1.1.2, q1.2.1.1, q1.2.1.2⟩, c _ H1 G1 _ s1 g1 walk_r q1.2.2⟩
theorem pid_r3 {a b d : Expr} (hg : ∀ i, Gl (X i) "range") (hm : ∀ i, (X i).mg "range" = none) (ha : PAB X [a, b, d] mr) (hs : ∀ i, starEach [a, b, d] (X i).env = (false, eval a (X i).env) :: starEach [b, d] (X i).env := by intro _; rfl)
    (hpl : ∀ i, (backTo pos (starEach [b, d] (X i).env)).any (·.1) = false := by intro _; rfl) : PId X tg (.Call (.Name "range" p) [a, b, d] [] pos) (mR3 mr) := by
  obtain ⟨t, h1, h2⟩ := ha.ex
  refine ⟨_, fun i => pi_range3 (hg i) (hm i) (h1 i) (hs i) (hpl i), fun B G en σ H Q k r q c => h2 B G en σ H _ _ r q fun vs H1 G1 ds s1 g1 r1 q1 => ?_⟩
  match ds, r1, q1 with
  | [.int i, .int j, .int cc], ⟨v, _, e, h, w, _, e2, h', z, _, e3, h'', e'⟩, q1 =>
    subst e
    subst e2
    subst e3
    cases e'
    cases h
    cases h'
    cases h''
    obtain ⟨n, q2, q3⟩ := q1
    exact ⟨i, j, cc, n, rfl, q2, c _ H1 G1 _ s1 g1 walk_rc q3⟩
/-- enumerate, zip: new pairs -/
def enumD : Nat → List D → List D
  | _, [] => []
  | i, x :: xs => .tup [.int i, x] :: enumD (i + 1) xs
def zipD (xs ys : List D) : List D := List.zipWith (fun x y => .tup [x, y]) xs ys
theorem enumD_get : ∀ (xs : List D) (k i : Nat), (enumD k xs)[i]? = (xs[i]?).map fun x => .tup [.int ((k + i : Nat) : Int), x]
  | [], _, _ => rfl
  | x :: xs, k, 0 => rfl
  | x :: xs, k, i + 1 => by
    show (enumD (k + 1) xs)[i]? = _
    rw [enumD_get xs (k + 1) i, Nat.add_assoc, Nat.add_comm 1 i]
    rfl
theorem enumD_len : ∀ (xs : List D) (k : Nat), (enumD k xs).length = xs.length
  | [], _ => rfl
  | x :: xs, k => by
    show (enumD (k + 1) xs).length + 1 = xs.length + 1
    rw [enumD_len xs]
theorem walk_e {R : Gh → Hp → Prop} {a : Addr} {vs : List V} {xs : List D} (h : ∀ G1 H1, R G1 H1 → GRel G1 H1 → SqL K H1 a vs ∧ RepL G1 xs vs) : WalkR R (Ite K a) (enumD 0 xs) := by
  intro i G1 H1 r g
  obtain ⟨h1, h2⟩ := h G1 H1 r g
  rw [enumD_len]
  refine ⟨fun hi => ?_, fun hi => ⟨vs, h1, by rw [← h2.length]; exact hi⟩, fun x H2 d hd hy => ?_⟩
  · obtain ⟨v, hv, _⟩ := h2.get (List.getElem?_eq_getElem hi)
    exact ⟨vs, v, h1, hv⟩
  · obtain ⟨T, y, e1, n, e3, e4⟩ := hy
    subst e1
    subst e3
    rw [enumD_get] at hd
    cases hx : xs[i]? with
    | none =>
      rw [hx] at hd
      cases hd
    | some dx =>
      rw [hx] at hd
      cases hd
      obtain ⟨v, hv, rv⟩ := h2.get hx
      have e5 := e4 vs h1
      rw [hv] at e5
      cases e5
      rw [Nat.zero_add]
      obtain ⟨s, g', rr⟩ := new_tup (ds := [.int (i : Int), dx]) g n ⟨_, _, rfl, rfl, _, _, rfl, rv, rfl⟩
      exact ⟨_, s, g', rr⟩
theorem zipD_get (xs ys : List D) (i : Nat) (d : D) (h : (zipD xs ys)[i]? = some d) : ∃ x y, xs[i]? = some x ∧ ys[i]? = some y ∧ d = .tup [x, y] := by
  unfold zipD at h
  rw [List.getElem?_zipWith] at h
  cases hx : xs[i]? with
  | none =>
    rw [hx] at h
    cases h
  | some x =>
    cases hy : ys[i]? with
    | none =>
      rw [hx, hy] at h
      cases h
    | some y =>
      rw [hx, hy] at h
      cases h
      exact ⟨x, y, rfl, rfl, rfl⟩
theorem zipD_len (xs ys : List D) : (zipD xs ys).length = min xs.length ys.length := List.length_zipWith
theorem walk_z {R : Gh → Hp → Prop} {a b : Addr} {vs ws : List V} {xs ys : List D} (h : ∀ G1 H1, R G1 H1 → GRel G1 H1 → SqL K H1 a vs ∧ RepL G1 xs vs ∧ SqL K H1 b ws ∧ RepL G1 ys ws) : WalkR R (Itz K a b) (zipD xs ys) := by
  intro i G1 H1 r g
  obtain ⟨h1, h2, h3, h4⟩ := h G1 H1 r g
  rw [zipD_len]
  refine ⟨fun hi => ?_, fun hi => ⟨vs, ws, h1, h3, by rw [← h2.length, ← h4.length]; omega⟩, fun x H2 d hd hy => ?_⟩
  · obtain ⟨v, hv, _⟩ := h2.get (List.getElem?_eq_getElem (show i < xs.length by omega))
    obtain ⟨w, hw, _⟩ := h4.get (List.getElem?_eq_getElem (show i < ys.length by omega))
    exact ⟨vs, ws, v, w, h1, h3, hv, hw⟩
  · obtain ⟨T, y, z, e1, n, e3, e4, e5⟩ := hy
    subst e1
    subst e3
    obtain ⟨dx, dy, hx, hy, e⟩ := zipD_get _ _ _ _ hd
    subst e
    obtain ⟨v, hv, rv⟩ := h2.get hx
    obtain ⟨w, hw, rw'⟩ := h4.get hy
    have e6 := e4 vs h1
    rw [hv] at e6
    cases e6
    have e7 := e5 ws h3
    rw [hw] at e7
    cases e7
    obtain ⟨s, g', rr⟩ := new_tup (ds := [dx, dy]) g n ⟨_, _, rfl, rv, _, _, rfl, rw', rfl⟩
    exact ⟨_, s, g', rr⟩
theorem walk_zt {R : Gh → Hp → Prop} {a b : Addr} {vs ws : List V} {xs ys : List D} (h : ∀ G1 H1, R G1 H1 → GRel G1 H1 → SqT K H1 a vs ∧ RepL G1 xs vs ∧ SqT K H1 b ws ∧ RepL G1 ys ws) : WalkR R (RZ.ItzT K a b) (zipD xs ys) := by
  intro i G1 H1 r g
  obtain ⟨h1, h2, h3, h4⟩ := h G1 H1 r g
  rw [zipD_len]
  refine ⟨fun hi => ?_, fun hi => ⟨vs, ws, h1, h3, by rw [← h2.length, ← h4.length]; omega⟩, fun x H2 d hd hy => ?_⟩
  · obtain ⟨v, hv, _⟩ := h2.get (List.getElem?_eq_getElem (show i < xs.length by omega))
    obtain ⟨w, hw, _⟩ := h4.get (List.getElem?_eq_getElem (show i < ys.length by omega))
    exact ⟨vs, ws, v, w, h1, h3, hv, hw⟩
  · obtain ⟨T, y, z, e1, n, e3, e4, e5⟩ := hy
    subst e1
    subst e3
    obtain ⟨dx, dy, hx, hy, e⟩ := zipD_get _ _ _ _ hd
    subst e
    obtain ⟨v, hv, rv⟩ := h2.get hx
    obtain ⟨w, hw, rw'⟩ := h4.get hy
    have e6 := e4 vs h1
    rw [hv] at e6
    cases e6
    have e7 := e5 ws h3
    rw [hw] at e7
    cases e7
    obtain ⟨s, g', rr⟩ := new_tup (ds := [dx, dy]) g n ⟨_, _, rfl, rv, _, _, rfl, rw', rfl⟩
    exact ⟨_, s, g', rr⟩
def mEnum (m : M (List D)) : M (List D) := fun en Q => m en fun ds => match ds with
  | [.lst xs] => Q (enumD 0 xs)
  | _ => False
def mZip (m : M (List D)) : M (List D) := fun en Q => m en fun ds => match ds with
  | [.lst xs, .lst ys] => Q (zipD xs ys)
  | [.tup xs, .tup ys] => Q (zipD xs ys)
  | _ => False
theorem pi_enumA {X : Cx} {elts : List Expr} {kk : Nat} {ta : TA} (hK : X.K = K) (hg : Gl X "enumerate") (hm : X.mg "enumerate" = none) (ha : PA X [e] ta) (hs : starEach [e] X.env = [(false, eval e X.env)]) : PI X (.Tuple elts kk tpos) (.Call (.Name "enumerate" p) [e] [] pos) (iEnum K ta) := by
  subst hK
  exact pi_enum hg hm ha hs
theorem pi_zipB {X : Cx} {elts : List Expr} {kk : Nat} {ta : TA} (hK : X.K = K) (hg : Gl X "zip") (hm : X.mg "zip" = none) (ha : PA X [e, e2] ta) (hs : starEach [e, e2] X.env = (false, eval e X.env) :: starEach [e2] X.env) (hpl : (backTo pos (starEach [e2] X.env)).any (·.1) = false) :
    PI X (.Tuple elts kk tpos) (.Call (.Name "zip" p) [e, e2] [] pos) (RZ.iZipA K ta) := by
  subst hK
  exact RZ.pi_zipA hg hm ha hs hpl
theorem pid_enum {elts : List Expr} {kk : Nat} (hK : ∀ i, (X i).K = K) (hg : ∀ i, Gl (X i) "enumerate") (hm : ∀ i, (X i).mg "enumerate" = none) (ha : PAd X [e] mr) (hs : ∀ i, starEach [e] (X i).env = [(false, eval e (X i).env)] := by intro _; rfl) :
    PId X (.Tuple elts kk tpos) (.Call (.Name "enumerate" p) [e] [] pos) (mEnum mr) := by
  obtain ⟨t, h1, h2⟩ := ha.ex
  refine ⟨_, fun i => pi_enumA (hK i) (hg i) (hm i) (h1 i) (hs i), fun B G en σ H Q k r q c => h2 B G en σ H _ _ r q fun vs H1 G1 ds s1 g1 r1 q1 => ?_⟩
  match ds, r1, q1 with
  | [.lst xs], ⟨v, _, e, h, e'⟩, q1 =>
    subst e
    cases e'
    obtain ⟨a, ws, e, k1, k2⟩ := h
    subst e
    exact ⟨a, ws, rfl, SqL.of (g1.f _ _ k1), c _ H1 G1 _ s1 g1 (walk_e fun G2 H2 l g2 => ⟨SqL.of (g2.f _ _ (l.f _ _ k1)), k2.mono l⟩) q1⟩
theorem pib_enum {elts : List Expr} {kk : Nat} (hK : ∀ i, (X i).K = K) (hg : ∀ i, Gl (X i) "enumerate") (hm : ∀ i, (X i).mg "enumerate" = none) (ha : PAB X [e] mr) (hs : ∀ i, starEach [e] (X i).env = [(false, eval e (X i).env)] := by intro _; rfl) :
    PIB X (.Tuple elts kk tpos) (.Call (.Name "enumerate" p) [e] [] pos) (mEnum mr) := by
  obtain ⟨t, h1, h2⟩ := ha.ex
  refine ⟨_, fun i => pi_enumA (hK i) (hg i) (hm i) (h1 i) (hs i), fun B G en σ H Q k r q c => h2 B G en σ H _ _ r q fun vs H1 G1 ds s1 g1 r1 q1 => ?_⟩
  match ds, r1, q1 with
  | [.lst xs], ⟨v, _, e, h, e'⟩, q1 =>
    subst e
    cases e'
    obtain ⟨a, ws, e, k1, ks, k2⟩ := h
    subst e
    exact ⟨a, ws, rfl, SqL.of k1, c _ H1 G1 _ s1 g1 (walk_e fun G2 H2 l g2 => ⟨SqL.of (l.keep _ _ k1 ks), k2.mono l.le⟩) q1⟩
theorem pid_zip {elts : List Expr} {kk : Nat} (hK : ∀ i, (X i).K = K) (hg : ∀ i, Gl (X i) "zip") (hm : ∀ i, (X i).mg "zip" = none) (ha : PAd X [e, e2] mr) (hs : ∀ i, starEach [e, e2] (X i).env = (false, eval e (X i).env) :: starEach [e2] (X i).env := by intro _; rfl)
    (hpl : ∀ i, (backTo pos (starEach [e2] (X i).env)).any (·.1) = false := by intro _; rfl) : PId X (.Tuple elts kk tpos) (.Call (.Name "zip" p) [e, e2] [] pos) (mZip mr) := by
  obtain ⟨t, h1, h2⟩ := ha.ex
  refine ⟨_, fun i => pi_zipB (hK i) (hg i) (hm i) (h1 i) (hs i) (hpl i), fun B G en σ H Q k r q c => h2 B G en σ H _ _ r q fun vs H1 G1 ds s1 g1 r1 q1 => ?_⟩
  match ds, r1, q1 with
  | [.lst xs, .lst ys], ⟨v, _, e, h, w, _, e2, h', e'⟩, q1 =>
    subst e
    subst e2
    cases e'
    obtain ⟨a, ws, e, k1, k2⟩ := h
    subst e
    obtain ⟨a', ws', e, k1', k2'⟩ := h'
    subst e
    exact ⟨a, a', ws, ws', rfl, .inl ⟨SqL.of (g1.f _ _ k1), SqL.of (g1.f _ _ k1'), c _ H1 G1 _ s1 g1 (walk_z fun G2 H2 l g2 => ⟨SqL.of (g2.f _ _ (l.f _ _ k1)), k2.mono l, SqL.of (g2.f _ _ (l.f _ _ k1')), k2'.mono l⟩) q1⟩⟩
  | [.tup xs, .tup ys], ⟨v, _, e, h, w, _, e2, h', e'⟩, q1 =>
    subst e
    subst e2
    cases e'
    obtain ⟨a, ws, e, k1, k2⟩ := h
    subst e
    obtain ⟨a', ws', e, k1', k2'⟩ := h'
    subst e
    exact ⟨a, a', ws, ws', rfl, .inr ⟨SqT.of (g1.f _ _ k1), SqT.of (g1.f _ _ k1'), c _ H1 G1 _ s1 g1 (walk_zt fun G2 H2 l g2 => ⟨SqT.of (g2.f _ _ (l.f _ _ k1)), k2.mono l, SqT.of (g2.f _ _ (l.f _ _ k1')), k2'.mono l⟩) q1⟩⟩
theorem pib_zip {elts : List Expr} {kk : Nat} (hK : ∀ i, (X i).K = K) (hg : ∀ i, Gl (X i) "zip") (hm : ∀ i, (X i).mg "zip" = none) (ha : PAB X [e, e2] mr) (hs : ∀ i, starEach [e, e2] (X i).env = (false, eval e (X i).env) :: starEach [e2] (X i).env := by intro _; rfl)
    (hpl : ∀ i, (backTo pos (starEach [e2] (X i).env)).any (·.1) = false := by intro _; rfl) : PIB X (.Tuple elts kk tpos) (.Call (.Name "zip" p) [e, e2] [] pos) (mZip mr) := by
  obtain ⟨t, h1, h2⟩ := ha.ex
  refine ⟨_, fun i => pi_zipB (hK i) (hg i) (hm i) (h1 i) (hs i) (hpl i), fun B G en σ H Q k r q c => h2 B G en σ H _ _ r q fun vs H1 G1 ds s1 g1 r1 q1 => ?_⟩
  match ds, r1, q1 with
  | [.lst xs, .lst ys], ⟨v, _, e, h, w, _, e2, h', e'⟩, q1 =>
    subst e
    subst e2
    cases e'
    obtain ⟨a, ws, e, k1, ks, k2⟩ := h
    subst e
    obtain ⟨a', ws', e, k1', ks', k2'⟩ := h'
    subst e
    exact ⟨a, a', ws, ws', rfl, .inl ⟨SqL.of k1, SqL.of k1', c _ H1 G1 _ s1 g1 (walk_z fun G2 H2 l g2 => ⟨SqL.of (l.keep _ _ k1 ks), k2.mono l.le, SqL.of (l.keep _ _ k1' ks'), k2'.mono l.le⟩) q1⟩⟩
  | [.tup xs, .tup ys], ⟨v, _, e, h, w, _, e2, h', e'⟩, q1 =>
    subst e
    subst e2
    cases e'
    obtain ⟨a, ws, e, k1, k2⟩ := h
    subst e
    obtain ⟨a', ws', e, k1', k2'⟩ := h'
    subst e
    exact ⟨a, a', ws, ws', rfl, .inr ⟨SqT.of (g1.f _ _ k1), SqT.of (g1.f _ _ k1'), c _ H1 G1 _ s1 g1 (walk_zt fun G2 H2 l g2 => ⟨SqT.of (g2.f _ _ (l.le.f _ _ k1)), k2.mono l.le, SqT.of (g2.f _ _ (l.le.f _ _ k1')), k2'.mono l.le⟩) q1⟩⟩
end
end DL

set_option Elab.async false
set_option linter.all false
set_option maxRecDepth 100000
namespace DL
open PySem PySem.Spec PyProof.Rows L2

/-! ### slots stored -/
theorem set_slot {α : Type} {l : List α} {i j : Nat} {x y : α} (h : (l.set i x)[j]? = some y) : (i = j ∧ y = x ∧ j < l.length) ∨ (i ≠ j ∧ l[j]? = some y) := by
  rw [List.getElem?_set] at h
  by_cases e : i = j
  · rw [if_pos e] at h
    split at h
    · rename_i hl
      cases h
      exact .inl ⟨e, rfl, by omega⟩
    · cases h
  · rw [if_neg e] at h
    exact .inr ⟨e, h⟩
theorem Rel.set {B : Bs} {G : Gh} {en : En} {σ : L2.St} {H : Hp} (r : Rel B G en σ H) (j : Nat) {x : D} {v : V} (rp : Rep G x v) : Rel B G (en.set j (.d x)) (σ.set j (some v)) H where
  g := r.g
  st := r.st
  len := by rw [List.length_set, List.length_set]; exact r.len
  sl := fun i s h => by
    rcases set_slot h with ⟨e, e2, hl⟩ | ⟨e, h'⟩
    · subst e
      subst e2
      exact ⟨some v, by rw [List.getElem?_set_self]; rw [← r.len]; exact hl, v, rfl, rp⟩
    · obtain ⟨o, h1, h2⟩ := r.sl i s h'
      exact ⟨o, by rw [List.getElem?_set_ne e]; exact h1, h2⟩
  dis := fun a b xs ys q h1 h2 h3 h4 => by
    rcases set_slot h1 with ⟨_, e2, _⟩ | ⟨e, h1'⟩
    · cases e2
    · rcases set_slot h2 with ⟨_, e2, _⟩ | ⟨e', h2'⟩
      · cases e2
      · rw [List.getElem?_set_ne e] at h3
        rw [List.getElem?_set_ne e'] at h4
        exact r.dis a b xs ys q h1' h2' h3 h4
theorem Rel.setU {B : Bs} {G : Gh} {en : En} {σ : L2.St} {H : Hp} (r : Rel B G en σ H) (j : Nat) (o : Option V) : Rel B G (en.set j .u) (σ.set j o) H where
  g := r.g
  st := r.st
  len := by rw [List.length_set, List.length_set]; exact r.len
  sl := fun i s h => by
    rcases set_slot h with ⟨e, e2, hl⟩ | ⟨e, h'⟩
    · subst e
      subst e2
      exact ⟨o, by rw [List.getElem?_set_self]; rw [← r.len]; exact hl, trivial⟩
    · obtain ⟨o, h1, h2⟩ := r.sl i s h'
      exact ⟨o, by rw [List.getElem?_set_ne e]; exact h1, h2⟩
  dis := fun a b xs ys q h1 h2 h3 h4 => by
    rcases set_slot h1 with ⟨_, e2, _⟩ | ⟨e, h1'⟩
    · cases e2
    · rcases set_slot h2 with ⟨_, e2, _⟩ | ⟨e', h2'⟩
      · cases e2
      · rw [List.getElem?_set_ne e] at h3
        rw [List.getElem?_set_ne e'] at h4
        exact r.dis a b xs ys q h1' h2' h3 h4
/-- a new list at a goes to slot j; H0: the heap in which a was not there and the others were -/
theorem Rel.setOwn {B : Bs} {G G0 : Gh} {en : En} {σ : L2.St} {H H0 : Hp} (r : Rel B G en σ H) (r0 : Rel B G0 en σ H0) (j : Nat) {xs : List D} {a : Addr} {vs : List V} (n : H0 a = none) (ha : H a = some (.lst vs)) (nf : G.F a = none) (ns : ¬ G.isS a)
    (rp : RepL G xs vs) : Rel B G (en.set j (.own xs)) (σ.set j (some (.ref a))) H where
  g := r.g
  st := r.st
  len := by rw [List.length_set, List.length_set]; exact r.len
  sl := fun i s h => by
    rcases set_slot h with ⟨e, e2, hl⟩ | ⟨e, h'⟩
    · subst e
      subst e2
      exact ⟨some (.ref a), by rw [List.getElem?_set_self]; rw [← r.len]; exact hl, a, vs, rfl, ha, nf, ns, there_none r0.st n, rp⟩
    · obtain ⟨o, h1, h2⟩ := r.sl i s h'
      exact ⟨o, by rw [List.getElem?_set_ne e]; exact h1, h2⟩
  dis := fun p q xs ys b h1 h2 h3 h4 => by
    have old : ∀ (i : Nat) (zs : List D), en[i]? = some (.own zs) → σ[i]? = some (some (V.ref b)) → b ≠ a := fun i zs h h' => by
      obtain ⟨o, k1, c, ws, k2, k3, _⟩ := r0.sl i _ h
      rw [h'] at k1
      cases k1
      cases k2
      intro e
      rw [e, n] at k3
      cases k3
    rcases set_slot h1 with ⟨e, _, hl⟩ | ⟨e, h1'⟩
    · rcases set_slot h2 with ⟨e', _, _⟩ | ⟨e', h2'⟩
      · exact e.symm.trans e'
      · rw [List.getElem?_set_ne e'] at h4
        rw [← e, List.getElem?_set_self (by rw [e, ← r.len]; exact hl)] at h3
        cases h3
        exact absurd rfl (old q ys h2' h4)
    · rcases set_slot h2 with ⟨e', _, hl⟩ | ⟨e', h2'⟩
      · rw [List.getElem?_set_ne e] at h3
        rw [← e', List.getElem?_set_self (by rw [e', ← r.len]; exact hl)] at h4
        cases h4
        exact absurd rfl (old p xs h1' h3)
      · rw [List.getElem?_set_ne e] at h3
        rw [List.getElem?_set_ne e'] at h4
        exact r.dis p q _ _ b h1' h2' h3 h4
/-- one's own list is changed -/
theorem Rel.mut {B : Bs} {G : Gh} {en : En} {σ : L2.St} {H : Hp} (r : Rel B G en σ H) {j : Nat} {xs ys : List D} {a : Addr} {ws : List V} (he : en[j]? = some (.own xs)) (hs : σ[j]? = some (some (.ref a))) (rp : RepL G ys ws) :
    Rel B G (en.set j (.own ys)) σ (upd H a (.lst ws)) := by
  obtain ⟨o, k1, c, vs, k2, k3, k4, k5, k6, k7⟩ := r.sl j _ he
  rw [hs] at k1
  cases k1
  cases k2
  have fr : Same G.F (upd H a (.lst ws)) := fun b u h => by
    rw [upd_ne (ne_of_none h k4)]
    exact r.g.f b u h
  have sr : ∀ p, G.s = some p → p.1 ≠ a ∧ p.2 ≠ a := fun p hp => ⟨fun e => k5 ⟨p, hp, .inl e.symm⟩, fun e => k5 ⟨p, hp, .inr e.symm⟩⟩
  refine ⟨⟨fr, fun p hp => ⟨(r.g.s p hp).1, (r.g.s p hp).2.1, (r.g.s p hp).2.2.1, (r.g.s p hp).2.2.2.upd (sr p hp).1 (sr p hp).2⟩⟩, ?_, by rw [List.length_set]; exact r.len, fun i s h => ?_, fun p q xs' ys' b h1 h2 h3 h4 => ?_⟩
  · refine ⟨r.st.f, r.st.s, fun b u h n => ?_, fun b u h => ?_, r.st.nof, r.st.nos⟩
    · rw [upd_ne (ne_of_none h k6)]
      exact r.st.keep b u h n
    · rw [upd_ne (ne_of_none h k6)]
      exact r.st.there b u h
  · rcases set_slot h with ⟨e, e2, hl⟩ | ⟨e, h'⟩
    · subst e
      subst e2
      exact ⟨_, hs, a, ws, rfl, upd_same, k4, k5, k6, rp⟩
    · obtain ⟨o, h1, h2⟩ := r.sl i s h'
      refine ⟨o, h1, ?_⟩
      cases s with
      | u => trivial
      | d x => exact h2
      | own zs =>
        obtain ⟨b, us, e1, e2, e3⟩ := h2
        subst e1
        have nb : b ≠ a := fun z => by
          subst z
          exact e (r.dis j i _ _ b he h' hs h1)
        exact ⟨b, us, rfl, by rw [upd_ne nb]; exact e2, e3⟩
  · have back : ∀ (i : Nat) (zs : List D), (en.set j (.own ys))[i]? = some (.own zs) → ∃ zs', en[i]? = some (.own zs') := fun i zs h => by
      rcases set_slot h with ⟨e, _, _⟩ | ⟨_, h'⟩
      · exact ⟨xs, by rw [← e]; exact he⟩
      · exact ⟨zs, h'⟩
    obtain ⟨z1, h1'⟩ := back p _ h1
    obtain ⟨z2, h2'⟩ := back q _ h2
    exact r.dis p q _ _ b h1' h2' h3 h4
/-- one's own list is given up: for ever -/
theorem Rel.frz {B : Bs} {G : Gh} {en : En} {σ : L2.St} {H : Hp} (r : Rel B G en σ H) {j : Nat} {xs : List D} (he : en[j]? = some (.own xs)) : ∃ G', Gle G G' ∧ Rel B G' (en.set j (.d (.lst xs))) σ H := by
  obtain ⟨o, k1, a, vs, k2, k3, k4, k5, k6, k7⟩ := r.sl j _ he
  subst k2
  have st : Step B.G B.H (G.put a (.lst vs)) H := r.st.put k6 k4
  have gl : Gle G (G.put a (.lst vs)) := Gle.put k4
  refine ⟨G.put a (.lst vs), gl, r.g.freeze k3 k4 k5, st, by rw [List.length_set]; exact r.len, fun i s h => ?_, fun p q xs' ys' b h1 h2 h3 h4 => ?_⟩
  · rcases set_slot h with ⟨e, e2, hl⟩ | ⟨e, h'⟩
    · subst e
      subst e2
      exact ⟨_, k1, _, rfl, a, vs, rfl, upd_same, k7.mono gl⟩
    · obtain ⟨o, h1, h2⟩ := r.sl i s h'
      refine ⟨o, h1, ?_⟩
      cases s with
      | u => trivial
      | d x =>
        obtain ⟨v, e, rr⟩ := h2
        exact ⟨v, e, rr.mono gl⟩
      | own zs =>
        obtain ⟨b, us, e1, e2, e3, e4, e5, e6⟩ := h2
        subst e1
        have nb : b ≠ a := fun z => by
          subst z
          exact e (r.dis j i _ _ b he h' k1 h1)
        exact ⟨b, us, rfl, e2, by show upd G.F a _ b = none; rw [upd_ne nb]; exact e3, e4, e5, e6.mono gl⟩
  · rcases set_slot h1 with ⟨_, e2, _⟩ | ⟨_, h1'⟩
    · cases e2
    · rcases set_slot h2 with ⟨_, e2, _⟩ | ⟨_, h2'⟩
      · cases e2
      · exact r.dis p q _ _ b h1' h2' h3 h4

/-! ### targets -/
def SemG (vs : List Nat) (g : TG) (m : D → En → (En → Prop) → Prop) : Prop := ∀ (B : Bs) (G : Gh) (en : En) (σ : L2.St) (H : Hp) (v : V) (d : D) (Q : En → Prop) (k : L2.St → Hp → Prop), Rel B G en σ H → Rep G d v → m d en Q →
  (∀ en' σ', Rel B G en' σ' H → wipe σ' vs = wipe σ vs → Q en' → k σ' H) → g v σ H k
def SemGs (vs : List Nat) (g : TGs) (m : List D → En → (En → Prop) → Prop) : Prop := ∀ (B : Bs) (G : Gh) (en : En) (σ : L2.St) (H : Hp) (ws : List V) (ds : List D) (Q : En → Prop) (k : L2.St → Hp → Prop), Rel B G en σ H → RepL G ds ws → m ds en Q →
  (∀ en' σ', Rel B G en' σ' H → wipe σ' vs = wipe σ vs → Q en' → k σ' H) → g ws σ H k
theorem wipe_set {σ : L2.St} {j : Nat} {o : Option V} : ∀ {vs : List Nat}, j ∈ vs → wipe (σ.set j o) vs = wipe σ vs
  | v :: vs, h => by
    show (wipe (σ.set j o) vs).set v none = (wipe σ vs).set v none
    by_cases e : j ∈ vs
    · rw [wipe_set e]
    · have ev : j = v := by
        rcases List.mem_cons.mp h with h | h
        · exact h
        · exact absurd h e
      subst ev
      have aux : ∀ (us : List Nat), j ∉ us → wipe (σ.set j o) us = (wipe σ us).set j o := by
        intro us
        induction us with
        | nil => intro _; rfl
        | cons u us ih =>
          intro hn
          show (wipe (σ.set j o) us).set u none = ((wipe σ us).set u none).set j o
          rw [ih fun z => hn (List.mem_cons_of_mem _ z), List.set_comm _ _ (fun z => hn (by rw [← z]; exact List.mem_cons_self))]
      rw [aux vs e, List.set_set]
section
variable {ι : Type}
structure PGd (X : ι → Cx) (vs : List Nat) (tg : Expr) (m : D → En → (En → Prop) → Prop) : Prop where
  ex : ∃ t, (∀ i, PG (X i) tg t) ∧ SemG vs t m
structure PGsd (X : ι → Cx) (vs : List Nat) (tgs : List Expr) (m : List D → En → (En → Prop) → Prop) : Prop where
  ex : ∃ t, (∀ i, PGs (X i) tgs t) ∧ SemGs vs t m
variable {X : ι → Cx} {K : Frg} {vs : List Nat} {e : Expr} {es : List Expr} {pos : Pos}
def gN (j : Nat) : D → En → (En → Prop) → Prop := fun d en Q => Q (en.set j (.d d))
theorem pgd_name {j : Nat} {x : Str} (hN : ∀ i, (X i).N.Nodup) (hi : ∀ i, (X i).N[j]? = some x) (hx : ∀ i, Loc (X i).env.scope x) (hf : ∀ i, (X i).fn x = true ∨ (X i).env.scope.names.lookup x = some .local) (hv : j ∈ vs := by decide) : PGd X vs (.Name x pos) (gN j) :=
  ⟨gName j, fun i => pg_name (hN i) (hi i) (hx i) (hf i), fun B G en σ H v d Q k r rp q c => c _ _ (r.set j rp) (wipe_set hv) q⟩
def gE : List D → En → (En → Prop) → Prop := fun ds en Q => ds = [] ∧ Q en
def gC (m : D → En → (En → Prop) → Prop) (ms : List D → En → (En → Prop) → Prop) : List D → En → (En → Prop) → Prop := fun ds en Q => match ds with
  | d :: r => m d en fun en' => ms r en' Q
  | [] => False
def gT (n : Nat) (ms : List D → En → (En → Prop) → Prop) : D → En → (En → Prop) → Prop := fun d en Q => match d with
  | .tup ds => ds.length = n ∧ ms ds en Q
  | _ => False
variable {m : D → En → (En → Prop) → Prop} {ms : List D → En → (En → Prop) → Prop}
theorem pgsd_nil : PGsd X vs [] gE := ⟨gNil, fun _ => pgs_nil, fun B G en σ H ws ds Q k r rp q c => by
  obtain ⟨e, q'⟩ := q
  subst e
  exact ⟨rp, c en σ r rfl q'⟩⟩
theorem pgsd_cons (h1 : PGd X vs e m) (h2 : PGsd X vs es ms) (hs : ∀ i, (assignEach (e :: es) (X i).env).map (·.2) = assign e (X i).env :: (assignEach es (X i).env).map (·.2)) : PGsd X vs (e :: es) (gC m ms) := by
  obtain ⟨t, a1, a2⟩ := h1.ex
  obtain ⟨u, b1, b2⟩ := h2.ex
  refine ⟨_, fun i => pgs_cons (a1 i) (b1 i) (hs i), fun B G en σ H ws ds Q k r rp q c => ?_⟩
  cases ds with
  | nil => exact False.elim q
  | cons d ds =>
    obtain ⟨v, rr, e, k1, k2⟩ := rp
    subst e
    exact ⟨v, rr, rfl, a2 B G en σ H v d _ _ r k1 q fun en1 σ1 r1 w1 q1 => b2 B G en1 σ1 H rr ds Q k r1 k2 q1 fun en2 σ2 r2 w2 q2 => c en2 σ2 r2 (w2.trans w1) q2⟩
theorem pg_tupA {X : Cx} {k n : Nat} {t : TGs} (hK : X.K = K) (hc : X.calm = true) (h : PGs X es t) (hn : (assignEach es X.env).length = n) (hst : (assignEach es X.env).findIdx? (·.1) = none) : PG X (.Tuple es k pos) (gTup K n t) := by
  subst hK
  exact pg_tup hc h hn hst
theorem pgd_tup {k n : Nat} (hK : ∀ i, (X i).K = K) (hc : ∀ i, (X i).calm = true) (h : PGsd X vs es ms) (hn : ∀ i, (assignEach es (X i).env).length = n) (hst : ∀ i, (assignEach es (X i).env).findIdx? (·.1) = none) : PGd X vs (.Tuple es k pos) (gT n ms) := by
  obtain ⟨t, a1, a2⟩ := h.ex
  refine ⟨_, fun i => pg_tupA (hK i) (hc i) (a1 i) (hn i) (hst i), fun B G en σ H v d Q k r rp q c => ?_⟩
  cases d <;> try exact False.elim q
  rename_i ds
  obtain ⟨a, ws, e, k1, k2⟩ := rp
  subst e
  exact ⟨a, ws, rfl, SqT.of (r.g.f _ _ k1), by rw [← k2.length]; exact q.1, a2 B G en σ H ws ds Q k r k2 q.2 c⟩

/-! ### comprehensions -/
def wipeE (en : En) : List Nat → En
  | [] => en
  | v :: vs => (wipeE en vs).set v .u
theorem Rel.wipe {B : Bs} {G : Gh} {en : En} {σ : L2.St} {H : Hp} (r : Rel B G en σ H) : ∀ vs : List Nat, Rel B G (wipeE en vs) (L2.wipe σ vs) H
  | [] => r
  | v :: vs => (Rel.wipe r vs).setU v none
structure PTsd (X : ι → Cx) (ifs : List Expr) (m : M Bool) : Prop where
  ex : ∃ t, (∀ i, PTs (X i) ifs t) ∧ SemT t m
def tTrue : M Bool := fun _ Q => Q true
theorem ptsd_nil : PTsd X [] tTrue := ⟨tYes, fun _ => pts_nil, fun B G en σ H Q k r q c => c true H G (Step.refl _ _) r.g q⟩
theorem ptsd_one {c : Expr} {mt : M Bool} (h : PTd X c mt) : PTsd X [c] mt := by
  obtain ⟨t, h1, h2⟩ := h.ex
  exact ⟨t, fun i => pts_one (h1 i), h2⟩
/-- the turns of a comprehension -/
def lcL (en : En) (mg : D → En → (En → Prop) → Prop) (mt : M Bool) (me : M D) : List D → List D → (List D → Prop) → Prop
  | [], acc, Q => Q acc
  | x :: xs, acc, Q => mg x en fun en2 => mt en2 fun b => if b = true then me en2 fun d => lcL en mg mt me xs (acc ++ [d]) Q else lcL en mg mt me xs acc Q
def mLc (vs : List Nat) (mi : M (List D)) (mg : D → En → (En → Prop) → Prop) (mt : M Bool) (me : M D) : M (List D) := fun en Q => mi en fun xs => xs.length ≤ sizeLine ∧ lcL (wipeE en vs) mg mt me xs [] Q
abbrev Blk (ι : Type) : Type := ι × Shared × Hp × Addr × List (Str × Addr) × List Addr
abbrev blkX (X : ι → Cx) (scope : Scope) : Blk ι → Cx := fun p => (X p.1).blk p.2.1 p.2.2.1 scope (compEnvC scope p.2.2.2.2.1 p.2.2.2.1 (X p.1).env) p.2.2.2.2.2
theorem semf_lc {wi : TI} {g : TG} {tt : TT} {te : TE} {mi : M (List D)} {mg : D → En → (En → Prop) → Prop} {mt : M Bool} {me : M D} (hi : SemIB wi mi) (hg : SemG vs g mg) (ht : SemT tt mt) (he : Sem te me) : SemF (tLc wi g tt te vs) (mLc vs mi mg mt me) := by
  intro B G en σ H Q k r q c
  refine hi B G en σ H _ _ r q fun J H1 G1 xs s1 g1 w1 q1 Dl hD => ?_
  have r1 := r.step s1 g1
  refine ⟨fun i mm Hc => i ≤ xs.length ∧ mm = xs.length - i ∧ ∃ Gc acc ws, Step G1 H1 Gc Hc ∧ GRel Gc Hc ∧ Hc Dl = some (.lst ws) ∧ Gc.F Dl = none ∧ ¬ Gc.isS Dl ∧ RepL Gc acc ws ∧ acc.length ≤ i ∧ lcL (wipeE en vs) mg mt me (xs.drop i) acc Q,
    ⟨xs.length, Nat.zero_le _, rfl, G1, [], [], Step.new hD, g1.new hD, upd_same, g1.fnone hD, g1.snone hD, rfl, Nat.le_refl _, q1.2⟩, fun i mm Hc hW => ?_⟩
  obtain ⟨hle, hm, Gc, acc, ws, sc, gc, hDl, nf, ns, ra, hal, hq⟩ := hW
  obtain ⟨wgo, wstop, wy⟩ := w1 i Gc Hc sc gc
  by_cases hlt : i < xs.length
  · refine .inr ⟨wgo hlt, fun H' => ∃ Gd acc' ws', Step G1 H1 Gd H' ∧ GRel Gd H' ∧ H' Dl = some (.lst ws') ∧ Gd.F Dl = none ∧ ¬ Gd.isS Dl ∧ RepL Gd acc' ws' ∧ acc'.length ≤ i + 1 ∧ lcL (wipeE en vs) mg mt me (xs.drop (i + 1)) acc' Q, ?_, fun x H2 hy => ?_⟩
    · rintro H' ⟨Gd, acc', ws', a1, a2, a3, a4, a5, a6, a7, a8⟩
      exact ⟨xs.length - (i + 1), by omega, by omega, rfl, Gd, acc', ws', a1, a2, a3, a4, a5, a6, a7, a8⟩
    · have hx : xs[i]? = some xs[i] := List.getElem?_eq_getElem hlt
      obtain ⟨G2, s2, g2, rx⟩ := wy x H2 _ hx hy
      rw [List.drop_eq_getElem_cons hlt] at hq
      have sc2 := sc.trans s2
      have r2 : Rel B G2 (wipeE en vs) (L2.wipe σ vs) H2 := (r1.step sc2 g2).wipe vs
      refine hg B G2 _ _ H2 x _ _ _ r2 rx hq fun en3 σ3 r3 w3 q3 => ⟨by rw [w3]; exact wipe_idem vs, ?_⟩
      refine ht B G2 en3 σ3 H2 _ _ r3 q3 fun b H3 G3 s3 g3 q4 => ?_
      have hDl3 : H3 Dl = some (.lst ws) := s3.keep _ _ (s2.keep _ _ hDl ns) (s2.nos _ _ hDl ns)
      have nf3 : G3.F Dl = none := s3.nof _ _ (s2.keep _ _ hDl ns) (s2.nof _ _ hDl nf)
      have ns3 : ¬ G3.isS Dl := s3.nos _ _ (s2.keep _ _ hDl ns) (s2.nos _ _ hDl ns)
      have ra3 := ra.mono (s2.trans s3).le
      cases b with
      | true =>
        rw [if_pos rfl]
        have q4' : me en3 fun d => lcL (wipeE en vs) mg mt me (xs.drop (i + 1)) (acc ++ [d]) Q := q4
        refine he B G3 en3 σ3 H3 _ _ (r3.step s3 g3) q4' fun y H4 G4 d s4 g4 r4 q5 => ?_
        have hDl4 : H4 Dl = some (.lst ws) := s4.keep _ _ hDl3 ns3
        have nf4 : G4.F Dl = none := s4.nof _ _ hDl3 nf3
        have ns4 : ¬ G4.isS Dl := s4.nos _ _ hDl3 ns3
        have sc4 := (sc2.trans s3).trans s4
        refine ⟨ws, hDl4, ?_, G4, acc ++ [d], ws ++ [y], ?_, ?_, upd_same, nf4, ns4, (ra3.mono s4.le).append (.one r4), by rw [List.length_append]; exact Nat.succ_le_succ hal, q5⟩
        · rw [← ra.length]
          have := q1.1
          omega
        · refine ⟨sc4.f, sc4.s, fun b o h n => ?_, fun b o h => ?_, sc4.nof, sc4.nos⟩
          · rw [upd_ne (ne_of_none h hD)]
            exact sc4.keep b o h n
          · rw [upd_ne (ne_of_none h hD)]
            exact sc4.there b o h
        · refine ⟨fun b u h => ?_, fun p hp => ⟨(g4.s p hp).1, (g4.s p hp).2.1, (g4.s p hp).2.2.1, (g4.s p hp).2.2.2.upd (fun e => ns4 ⟨p, hp, .inl e.symm⟩) (fun e => ns4 ⟨p, hp, .inr e.symm⟩)⟩⟩
          rw [upd_ne (ne_of_none h nf4)]
          exact g4.f b u h
      | false =>
        rw [if_neg (by decide)]
        exact ⟨G3, acc, ws, sc2.trans s3, g3, hDl3, nf3, ns3, ra3, Nat.le_succ_of_le hal, q4⟩
  · have hi : xs.length ≤ i := Nat.le_of_not_lt hlt
    rw [List.drop_eq_nil_of_le hi] at hq
    exact .inl ⟨wstop hi, c Dl ws Hc Gc acc (s1.trans sc) gc (there_none s1 hD) hDl nf ns ra hq⟩
where
  wipe_idem : ∀ (vs : List Nat) {σ : L2.St}, L2.wipe (L2.wipe σ vs) vs = L2.wipe σ vs := by
    intro vs σ
    have aux : ∀ (us : List Nat) (τ : L2.St), (∀ u ∈ us, τ[u]? = some none ∨ τ[u]? = none) → L2.wipe τ us = τ := by
      intro us
      induction us with
      | nil => intro τ _; rfl
      | cons u us ih =>
        intro τ h
        show (L2.wipe τ us).set u none = τ
        rw [ih τ fun w hw => h w (List.mem_cons_of_mem _ hw)]
        apply List.ext_getElem?
        intro n
        by_cases e : u = n
        · subst e
          rcases h u List.mem_cons_self with z | z
          · rw [List.getElem?_set_self (List.getElem?_eq_some_iff.mp z).1, z]
          · rw [z, List.getElem?_eq_none_iff, List.length_set]
            exact List.getElem?_eq_none_iff.mp z
        · rw [List.getElem?_set_ne e]
    refine aux vs _ fun u hu => ?_
    cases z : (L2.wipe σ vs)[u]? with
    | none => exact .inr rfl
    | some o =>
      cases o with
      | none => exact .inl rfl
      | some x => exact absurd hu (wipe_some z).2
theorem pf_lc {elt tg iter : Expr} {ifs : List Expr} {scope : Scope} {own : List (Str × Nat)} {mi : M (List D)} {mg : D → En → (En → Prop) → Prop} {mt : M Bool} {me : M D} (hc : ∀ i, (X i).calm = true) (hN : ∀ i, (X i).N.Nodup) (hi : PIB X tg iter mi)
    (ok : ∀ i, BlkOk (X i).N (X i).env.scope scope own) (hg : PGd (blkX X scope) (own.map (·.2)) tg mg) (ht : PTsd (blkX X scope) ifs mt) (he : PD (blkX X scope) elt me) (hs : ∀ i x, foldedSetIterable iter (X i).env x = pure x := by intro _ _; rfl) :
    PF X (.ListComp elt [⟨tg, iter, ifs, 0⟩] scope pos) (mLc (own.map (·.2)) mi mg mt me) := by
  obtain ⟨t1, a1, a2⟩ := hi.ex
  obtain ⟨t2, b1, b2⟩ := hg.ex
  obtain ⟨t3, c1, c2⟩ := ht.ex
  obtain ⟨t4, d1, d2⟩ := he.ex
  exact ⟨_, fun i => pe_lc (hc i) (hN i) (a1 i) (ok i) (fun s H C cl fp => b1 (i, s, H, C, cl, fp)) (fun s H C cl fp => c1 (i, s, H, C, cl, fp)) (fun s H C cl fp => d1 (i, s, H, C, cl, fp)) (hs i), semf_lc a2 b2 c2 d2⟩
end
end DL

set_option Elab.async false
set_option linter.all false
set_option maxRecDepth 100000
namespace DL
open PySem PySem.Spec PyProof.Rows L2

/-! ### statements -/
structure Fin where
  nx : En → Prop
  rt : D → Prop
  bk : En → Prop := fun _ => False
  ct : En → Prop := fun _ => False
abbrev MS := Fin → En → Prop
structure EndOk (B : Bs) (G : Gh) (F : Fin) (E : Ends) : Prop where
  nx : ∀ G' en' σ' H', Rel B G' en' σ' H' → Gle G G' → F.nx en' → E.nx σ' H'
  rt : ∀ G' v H' d, Step B.G B.H G' H' → GRel G' H' → Rep G' d v → F.rt d → E.rt v H'
  bk : ∀ G' en' σ' H', Rel B G' en' σ' H' → Gle G G' → F.bk en' → E.bk σ' H'
  ct : ∀ G' en' σ' H', Rel B G' en' σ' H' → Gle G G' → F.ct en' → E.ct σ' H'
theorem EndOk.le {B : Bs} {G G1 : Gh} {F : Fin} {E : Ends} (h : EndOk B G F E) (l : Gle G G1) : EndOk B G1 F E :=
  ⟨fun G' en' σ' H' r k => h.nx G' en' σ' H' r (l.trans k), h.rt, fun G' en' σ' H' r k => h.bk G' en' σ' H' r (l.trans k), fun G' en' σ' H' r k => h.ct G' en' σ' H' r (l.trans k)⟩
def SemS (t : TS) (m : MS) : Prop := ∀ (B : Bs) (G : Gh) (en : En) (σ : L2.St) (H : Hp) (F : Fin) (E : Ends), Rel B G en σ H → m F en → EndOk B G F E → t E σ H
structure SD (X : Cx) (st : Stmt) (m : MS) : Prop where
  ex : ∃ t, PS X st t ∧ SemS t m
structure SDs (X : Cx) (st : List Stmt) (m : MS) : Prop where
  ex : ∃ t, PSs X st t ∧ SemS t m
section
variable {X : Cx} {st : Stmt} {rest : List Stmt} {m m' : MS} {e : Expr} {pos : Pos} {K : Frg}
abbrev un (X : Cx) : Unit → Cx := fun _ => X
def sNx : MS := fun F en => F.nx en
def sSq (m m' : MS) : MS := fun F en => m { F with nx := fun en' => m' F en' } en
theorem sd_nil : SDs X [] sNx := ⟨tNext, pss_nil, fun B G en σ H F E r q k => k.nx G en σ H r (Gle.refl _) q⟩
theorem sem_sq {t u : TS} (h2 : SemS t m) (h4 : SemS u m') : SemS (tSeq t u) (sSq m m') := fun B G en σ H F E r q k =>
  h2 B G en σ H _ { E with nx := u E } r q ⟨fun G' en' σ' H' r' l q' => h4 B G' en' σ' H' F E r' q' (k.le l), k.rt, k.bk, k.ct⟩
theorem sd_cons (h1 : SD X st m) (h2 : SDs X rest m') : SDs X (st :: rest) (sSq m m') := by
  obtain ⟨t, a, b⟩ := h1.ex
  obtain ⟨u, c, d⟩ := h2.ex
  exact ⟨_, pss_cons a c, sem_sq b d⟩
theorem sd_one (h1 : SD X st m) : SDs X [st] m := by
  obtain ⟨t, a, b⟩ := h1.ex
  exact ⟨t, pss_one a, b⟩
def sBk : MS := fun F en => F.bk en
def sCt : MS := fun F en => F.ct en
theorem sd_pass : SD X (.Pass pos) sNx := ⟨_, ps_pass, fun B G en σ H F E r q k => k.nx G en σ H r (Gle.refl _) q⟩
theorem sd_break : SD X (.Break pos) sBk := ⟨_, ps_break, fun B G en σ H F E r q k => k.bk G en σ H r (Gle.refl _) q⟩
theorem sd_continue : SD X (.Continue pos) sCt := ⟨_, ps_continue, fun B G en σ H F E r q k => k.ct G en σ H r (Gle.refl _) q⟩
theorem sd_doc {x : Str} {j : Nat} {pos' : Pos} : SD X (.Expr (.Constant (.str x) j pos) pos') sNx := ⟨_, ps_doc, fun B G en σ H F E r q k => k.nx G en σ H r (Gle.refl _) q⟩
variable {md : M D} {mf : M (List D)} {mr : M (List D)} {mt : M Bool}
def sRet (md : M D) : MS := fun F en => md en F.rt
theorem sd_ret (h : PD (un X) e md) : SD X (.Return (some e) pos) (sRet md) := by
  obtain ⟨t, a, b⟩ := h.ex
  exact ⟨_, ps_ret (a ()), fun B G en σ H F E r q k => b B G en σ H _ _ r q fun v H' G' d s g rp q' => k.rt G' v H' d (r.st.trans s) g rp q'⟩
def sRetN : MS := fun F en => F.rt .non
theorem sd_retN : SD X (.Return none pos) sRetN := ⟨_, ps_retN, fun B G en σ H F E r q k => k.rt G .non H .non r.st r.g rfl q⟩
def sIf (mt : M Bool) (m m' : MS) : MS := fun F en => mt en fun b => if b = true then m F en else m' F en
theorem sd_if {c : Expr} {a b : List Stmt} (hc : PTd (un X) c mt) (ha : SDs X a m) (hb : SDs X b m') : SD X (.If c a b pos) (sIf mt m m') := by
  obtain ⟨t, a1, a2⟩ := hc.ex
  obtain ⟨u, b1, b2⟩ := ha.ex
  obtain ⟨w, c1, c2⟩ := hb.ex
  refine ⟨_, ps_if (a1 ()) b1 c1, fun B G en σ H F E r q k => a2 B G en σ H _ _ r q fun z H1 G1 s g q1 => ?_⟩
  cases z with
  | true =>
    rw [if_pos rfl]
    have q1' : m F en := q1
    exact b2 B G1 en σ H1 F E (r.step s g) q1' (k.le s.le)
  | false =>
    rw [if_neg (by decide)]
    have q1' : m' F en := q1
    exact c2 B G1 en σ H1 F E (r.step s g) q1' (k.le s.le)
/-- target = e -/
def sAsg (md : M D) (mg : D → En → (En → Prop) → Prop) : MS := fun F en => md en fun d => mg d en F.nx
theorem sem_asg {te : TE} {g : TG} {vs : List Nat} {mg : D → En → (En → Prop) → Prop} (b : Sem te md) (d : SemG vs g mg) : SemS (tAsg te g) (sAsg md mg) := fun B G en σ H F E r q k =>
  b B G en σ H _ _ r q fun v H' G' x s g' rp q' => d B G' en σ H' v x _ _ (r.step s g') rp q' fun en' σ' r' _ q'' => k.nx G' en' σ' H' r' s.le q''
theorem sd_asg {vs : List Nat} {tg : Expr} {mg : D → En → (En → Prop) → Prop} (he : PD (un X) e md) (hg : PGd (un X) vs tg mg) (hs : swapsWithSole [tg] e pos.line X.env = pure false) (hw : swappedStores [tg] e X.env = pure none)
    (h1 : (assignEach [tg] X.env).map (·.2) = [assign tg X.env]) : SD X (.Assign [tg] e pos) (sAsg md mg) := by
  obtain ⟨t, a, b⟩ := he.ex
  obtain ⟨u, c, d⟩ := hg.ex
  exact ⟨_, ps_asg (a ()) (c ()) hs hw h1, sem_asg b d⟩
theorem sem_gN {j : Nat} {vs : List Nat} (hv : j ∈ vs) : SemG vs (gName j) (gN j) := fun B G en σ H v d Q k r rp q c => c _ _ (r.set j rp) (wipe_set hv) q
/-- name = e -/
theorem sd_set {i : Nat} {x : Str} {pos' : Pos} (hN : X.N.Nodup) (hi : X.N[i]? = some x) (hx : Loc X.env.scope x) (he : PD (un X) e md) (hs : swapsWith e (some (.Name x pos')) pos.line X.env = pure false)
    (hf : X.fn x = true ∨ X.env.scope.names.lookup x = some .local) : SD X (.Assign [.Name x pos'] e pos) (sAsg md (gN i)) := by
  obtain ⟨t, a, b⟩ := he.ex
  exact ⟨_, ps_set hN hi hx (a ()) hs hf, sem_asg b (sem_gN (vs := [i]) (by simp))⟩
/-- name = a new list, one's own -/
def sOwn (mf : M (List D)) (i : Nat) : MS := fun F en => mf en fun xs => F.nx (en.set i (.own xs))
theorem sem_own {te : TE} {i : Nat} (b : SemF te mf) : SemS (tAsg te (gName i)) (sOwn mf i) := fun B G en σ H F E r q k =>
  b B G en σ H _ _ r q fun a vs H' G' xs s g n ha nf ns rp q' => k.nx G' _ _ H' ((r.step s g).setOwn r i n ha nf ns rp) s.le q'
theorem sd_own {i : Nat} {x : Str} {pos' : Pos} (hN : X.N.Nodup) (hi : X.N[i]? = some x) (hx : Loc X.env.scope x) (he : PF (un X) e mf) (hs : swapsWith e (some (.Name x pos')) pos.line X.env = pure false)
    (hf : X.fn x = true ∨ X.env.scope.names.lookup x = some .local) : SD X (.Assign [.Name x pos'] e pos) (sOwn mf i) := by
  obtain ⟨t, a, b⟩ := he.ex
  exact ⟨_, ps_set hN hi hx (a ()) hs hf, sem_own b⟩
/-- name = [.. for ..] on one line, the name a plain local -/
theorem sd_lcG {i : Nat} {y : Str} {py : Pos} {elt tg iter : Expr} {ifs : List Expr} {scope : Scope} {own : List (Str × Nat)} {spos : Pos} {mi : M (List D)} {mg : D → En → (En → Prop) → Prop} {mt : M Bool} {me : M D} {ms : MS} (hc : X.calm = true) (hN : X.N.Nodup) (hy : X.N[i]? = some y)
    (hyl : X.env.scope.names.lookup y = some .local) (hsw : swapsWith (.ListComp elt [⟨tg, iter, ifs, 0⟩] scope pos) (some (.Name y py)) spos.line X.env = pure true) (hi : PIB (un X) tg iter mi) (ok : BlkOk X.N X.env.scope scope own)
    (hg : PGd (blkX (un X) scope) (own.map (·.2)) tg mg) (ht : PTsd (blkX (un X) scope) ifs mt) (he : PD (blkX (un X) scope) elt me) (hs : ∀ x, foldedSetIterable iter X.env x = pure x)
    (fin : ∀ te, SemF te (mLc (own.map (·.2)) mi mg mt me) → SemS (tAsg te (gName i)) ms) :
    SD X (.Assign [.Name y py] (.ListComp elt [⟨tg, iter, ifs, 0⟩] scope pos) spos) ms := by
  obtain ⟨t1, a1, a2⟩ := hi.ex
  obtain ⟨t2, b1, b2⟩ := hg.ex
  obtain ⟨t3, c1, c2⟩ := ht.ex
  obtain ⟨t4, d1, d2⟩ := he.ex
  exact ⟨_, ps_setLc hc hN hy hyl hsw (a1 ()) ok (fun s H C cl fp => b1 ((), s, H, C, cl, fp)) (fun s H C cl fp => c1 ((), s, H, C, cl, fp)) (fun s H C cl fp => d1 ((), s, H, C, cl, fp)) hs, fin _ (semf_lc a2 b2 c2 d2)⟩
theorem sem_mL {te : TE} (h2 : SemF te mf) : Sem te (mL mf) := fun B G en σ H Q k r q c => h2 B G en σ H _ k r q fun a vs H' G' xs s g n ha nf ns rp q =>
  c _ H' (G'.put a (.lst vs)) (.lst xs) (s.put n nf) (g.freeze ha nf ns) ⟨a, vs, rfl, upd_same, rp.mono (Gle.put nf)⟩ q
/-- .. for ever -/
theorem fin_d {te : TE} {i : Nat} (h : SemF te mf) : SemS (tAsg te (gName i)) (sAsg (mL mf) (gN i)) := sem_asg (sem_mL h) (sem_gN (vs := [i]) (by simp))
/-- a, b = x, y -/
def sPar (i j : Nat) (mr : M (List D)) : MS := fun F en => mr en fun ds => match ds with
  | [x, y] => F.nx ((en.set i (.d x)).set j (.d y))
  | _ => False
theorem sd_par {i j : Nat} {x y : Str} {a b : Expr} {px py pt : Pos} {kt k2 : Nat} {pt2 : Pos} (hc : X.calm = true) (hN : X.N.Nodup) (hi : X.N[i]? = some x) (hj : X.N[j]? = some y) (hij : i ≠ j) (hx : X.env.scope.names.lookup x = some .local) (hy : X.env.scope.names.lookup y = some .local)
    (ha : PAd (un X) [a, b] mr) (hw : swappedStores [.Tuple [.Name x px, .Name y py] kt pt] (.Tuple [a, b] k2 pt2) X.env = pure (some [x, y])) (hs : swapsWithSole [.Tuple [.Name x px, .Name y py] kt pt] (.Tuple [a, b] k2 pt2) pos.line X.env = pure false) :
    SD X (.Assign [.Tuple [.Name x px, .Name y py] kt pt] (.Tuple [a, b] k2 pt2) pos) (sPar i j mr) := by
  obtain ⟨t, a1, a2⟩ := ha.ex
  refine ⟨_, ps_par hc hN hi hj hij hx hy (a1 ()) hw hs, fun B G en σ H F E r q k => a2 B G en σ H _ _ r q fun vs H1 G1 ds s g rp q1 => ?_⟩
  match ds, rp, q1 with
  | [x, y], ⟨v, _, e, h, w, _, e2, h', e'⟩, q1 =>
    subst e
    subst e2
    cases e'
    exact ⟨v, w, rfl, k.nx G1 _ _ H1 (((r.step s g).set i h).set j h') s.le q1⟩
def sPar3 (i j l : Nat) (mr : M (List D)) : MS := fun F en => mr en fun ds => match ds with
  | [x, y, z] => F.nx (((en.set i (.d x)).set j (.d y)).set l (.d z))
  | _ => False
theorem sd_par3 {i j l : Nat} {x y z : Str} {a b c : Expr} {px py pz pt : Pos} {kt k2 : Nat} {pt2 : Pos} (hc : X.calm = true) (hN : X.N.Nodup) (hi : X.N[i]? = some x) (hj : X.N[j]? = some y) (hl : X.N[l]? = some z) (hij : i ≠ j) (hil : i ≠ l) (hjl : j ≠ l)
    (hx : X.env.scope.names.lookup x = some .local) (hy : X.env.scope.names.lookup y = some .local) (hz : X.env.scope.names.lookup z = some .local)
    (ha : PAd (un X) [a, b, c] mr) (hw : swappedStores [.Tuple [.Name x px, .Name y py, .Name z pz] kt pt] (.Tuple [a, b, c] k2 pt2) X.env = pure (some [x, y, z])) (hs : swapsWithSole [.Tuple [.Name x px, .Name y py, .Name z pz] kt pt] (.Tuple [a, b, c] k2 pt2) pos.line X.env = pure false) :
    SD X (.Assign [.Tuple [.Name x px, .Name y py, .Name z pz] kt pt] (.Tuple [a, b, c] k2 pt2) pos) (sPar3 i j l mr) := by
  obtain ⟨t, a1, a2⟩ := ha.ex
  refine ⟨_, ps_par3 hc hN hi hj hl hij hil hjl hx hy hz (a1 ()) hw hs, fun B G en σ H F E r q k => a2 B G en σ H _ _ r q fun vs H1 G1 ds s g rp q1 => ?_⟩
  rcases ds with _ | ⟨x, ds⟩
  · exact q1.elim
  rcases ds with _ | ⟨y, ds⟩
  · exact q1.elim
  rcases ds with _ | ⟨z, ds⟩
  · exact q1.elim
  rcases ds with _ | ⟨z', ds⟩
  · obtain ⟨u, _, e, h, rp⟩ := rp
    obtain ⟨v, _, e2, h', rp⟩ := rp
    obtain ⟨w, _, e3, h'', rp⟩ := rp
    subst e
    subst e2
    subst e3
    cases rp
    exact ⟨u, v, w, rfl, k.nx G1 _ _ H1 ((((r.step s g).set i h).set j h').set l h'') s.le q1⟩
  · exact q1.elim
/-- an expression alone -/
def sDrop (md : M D) : MS := fun F en => md en fun _ => F.nx en
theorem sd_drop (h : PD (un X) e md) (hs : swapsWith e none pos.line X.env = pure false) : SD X (.Expr e pos) (sDrop md) := by
  obtain ⟨t, a, b⟩ := h.ex
  exact ⟨_, ps_expr (a ()) hs, fun B G en σ H F E r q k => b B G en σ H _ _ r q fun v H' G' d s g rp q' => k.nx G' en σ H' (r.step s g) s.le q'⟩
/-- one's own list is given up (no statement of the text) -/
def sFrz (j : Nat) (m : MS) : MS := fun F en => match en[j]? with
  | some (.own xs) => m F (en.set j (.d (.lst xs)))
  | _ => m F en
theorem sem_frz {t : TS} {j : Nat} (h : SemS t m) : SemS t (sFrz j m) := fun B G en σ H F E r q k => by
  unfold sFrz at q
  split at q
  · rename_i xs he
    obtain ⟨G', l, r'⟩ := r.frz he
    exact h B G' _ σ H F E r' q (k.le l)
  · exact h B G en σ H F E r q k
theorem sd_frz {j : Nat} (h : SD X st m) : SD X st (sFrz j m) := by
  obtain ⟨t, a, b⟩ := h.ex
  exact ⟨t, a, sem_frz b⟩
theorem sds_frz {l : List Stmt} {j : Nat} (h : SDs X l m) : SDs X l (sFrz j m) := by
  obtain ⟨t, a, b⟩ := h.ex
  exact ⟨t, a, sem_frz b⟩

/-! ### one's own list, changed -/
variable {i : Nat} {x : Str} {p1 p2 p3 : Pos}
theorem tyV_own {G : Gh} {H : Hp} {a : Addr} {vs : List V} (h : H a = some (.lst vs)) : tyV K "list" (.ref a) H := .inl ⟨rfl, vs, SqL.of h⟩
/-- xs.append(e) -/
def sApp (i : Nat) (md : M D) : MS := fun F en => match en[i]? with
  | some (.own xs) => md en fun d => xs.length < sizeLine ∧ F.nx (en.set i (.own (xs ++ [d])))
  | _ => False
theorem sd_app {apos cpos : Pos} (hN : X.N[i]? = some x) (hv : Vis X.env.scope x) (he : PD (un X) e md) (hbase : attributeBase (.Name x p1) "append" X.env (eval (.Name x p1) X.env) = eval (.Name x p1) X.env)
    (hfew : ((backTo cpos (starEach [e] X.env)).all (fun x => !x.1) && (backToKw cpos (keywordEach [] X.env)).all (fun x => x.1.isSome) && decide ([e].length + ([] : List Keyword).length + (if ([] : List Keyword).isEmpty then 0 else 1) < 30)) = true)
    (hline : (apos.endLine == cpos.line) = true) (hs1 : starEach [e] X.env = (false, eval e X.env) :: starEach [] X.env) (hs : swapsWith (.Call (.Attribute (.Name x p1) "append" apos) [e] [] cpos) none pos.line X.env = pure false)
    (hd : (x == ("__debug__" : Str)) = false := by decide) (hcd : (x == ("__classdict__" : Str)) = false := by decide) : SD X (.Expr (.Call (.Attribute (.Name x p1) "append" apos) [e] [] cpos) pos) (sApp i md) := by
  obtain ⟨t, a, b⟩ := he.ex
  refine ⟨_, ps_expr (pe_bm PySem.F.plainAttrs_list PySem.F.slot_list_append PySem.F.type_list_append mt_append (pe_var hN hv hd hcd) (pa_cons (a ()) pa_nil hs1) hbase hfew hline hs1 rfl) hs, fun B G en σ H F E r q k => ?_⟩
  unfold sApp at q
  split at q
  · rename_i xs he
    obtain ⟨o, k1, l, vs, k2, k3, k4, k5, k6, k7⟩ := r.sl i _ he
    subst k2
    refine ⟨.ref l, k1, tyV_own (G := G) k3, b B G en σ H _ _ r q fun v H1 G1 d s g rp q1 => ?_⟩
    have r1 := r.step s g
    have k3' := s.keep _ _ k3 k5
    have k7' := k7.mono s.le
    refine ⟨l, vs, v, rfl, rfl, k3', by rw [← k7'.length]; exact q1.1, ?_⟩
    exact k.nx G1 _ _ _ (r1.mut he k1 (k7'.append (.one rp))) s.le q1.2
  · exact q.elim
/-- xs.extend(e), e a list -/
def sExt (i : Nat) (md : M D) : MS := fun F en => match en[i]? with
  | some (.own xs) => md en fun d => match d with
    | .lst ys => xs.length + ys.length ≤ sizeLine ∧ F.nx (en.set i (.own (xs ++ ys)))
    | _ => False
  | _ => False
theorem sd_ext {apos cpos : Pos} (hN : X.N[i]? = some x) (hv : Vis X.env.scope x) (he : PB (un X) e md) (hbase : attributeBase (.Name x p1) "extend" X.env (eval (.Name x p1) X.env) = eval (.Name x p1) X.env)
    (hfew : ((backTo cpos (starEach [e] X.env)).all (fun x => !x.1) && (backToKw cpos (keywordEach [] X.env)).all (fun x => x.1.isSome) && decide ([e].length + ([] : List Keyword).length + (if ([] : List Keyword).isEmpty then 0 else 1) < 30)) = true)
    (hline : (apos.endLine == cpos.line) = true) (hs1 : starEach [e] X.env = (false, eval e X.env) :: starEach [] X.env) (hs : swapsWith (.Call (.Attribute (.Name x p1) "extend" apos) [e] [] cpos) none pos.line X.env = pure false)
    (hd : (x == ("__debug__" : Str)) = false := by decide) (hcd : (x == ("__classdict__" : Str)) = false := by decide) : SD X (.Expr (.Call (.Attribute (.Name x p1) "extend" apos) [e] [] cpos) pos) (sExt i md) := by
  obtain ⟨t, a, b⟩ := he.ex
  refine ⟨_, ps_expr (pe_bm PySem.F.plainAttrs_list PySem.F.slot_list_extend PySem.F.type_list_extend mt_extend (pe_var hN hv hd hcd) (pa_cons (a ()) pa_nil hs1) hbase hfew hline hs1 rfl) hs, fun B G en σ H F E r q k => ?_⟩
  unfold sExt at q
  split at q
  · rename_i xs he
    obtain ⟨o, k1, l, vs, k2, k3, k4, k5, k6, k7⟩ := r.sl i _ he
    subst k2
    refine ⟨.ref l, k1, tyV_own (G := G) k3, b B G en σ H _ _ r q fun v H1 G1 d s g rp q1 => ?_⟩
    have r1 := r.step s g
    have k3' := s.keep _ _ k3 k5
    have k7' := k7.mono s.le
    cases d <;> try exact False.elim q1
    obtain ⟨a', ws, e, j1, j2, j3⟩ := rp
    subst e
    refine ⟨l, a', vs, ws, rfl, rfl, k3', j1, by rw [← k7'.length, ← j3.length]; exact q1.1, ?_⟩
    exact k.nx G1 _ _ _ (r1.mut he k1 (k7'.append j3)) s.le q1.2
  · exact q.elim
/-- y = xs.pop() -/
def sPop (i j : Nat) : MS := fun F en => match en[i]? with
  | some (.own xs) => match xs[xs.length - 1]? with
    | some d => F.nx ((en.set i (.own xs.dropLast)).set j (.d d))
    | none => False
  | _ => False
theorem sd_pop {j : Nat} {y : Str} {py : Pos} {apos cpos : Pos} (hN : X.N[i]? = some x) (hv : Vis X.env.scope x) (hbase : attributeBase (.Name x p1) "pop" X.env (eval (.Name x p1) X.env) = eval (.Name x p1) X.env)
    (hline : (apos.endLine == cpos.line) = true) (hNd : X.N.Nodup) (hi : X.N[j]? = some y) (hx : Loc X.env.scope y) (hs : swapsWith (.Call (.Attribute (.Name x p1) "pop" apos) [] [] cpos) (some (.Name y py)) pos.line X.env = pure false)
    (hf : X.fn y = true ∨ X.env.scope.names.lookup y = some .local) (hd : (x == ("__debug__" : Str)) = false := by decide) (hcd : (x == ("__classdict__" : Str)) = false := by decide) :
    SD X (.Assign [.Name y py] (.Call (.Attribute (.Name x p1) "pop" apos) [] [] cpos) pos) (sPop i j) := by
  refine ⟨_, ps_set hNd hi hx (pe_bm0 PySem.F.plainAttrs_list PySem.F.slot_list_pop PySem.F.type_list_pop mt_pop (pe_var hN hv hd hcd) hbase hline) hs hf, fun B G en σ H F E r q k => ?_⟩
  unfold sPop at q
  split at q
  · rename_i xs he
    obtain ⟨o, k1, l, vs, k2, k3, k4, k5, k6, k7⟩ := r.sl i _ he
    subst k2
    split at q
    · rename_i d hd
      obtain ⟨v, hv, rv⟩ := k7.get hd
      rw [k7.length] at hv
      exact ⟨.ref l, k1, tyV_own (G := G) k3, l, vs, v, rfl, rfl, k3, hv, k.nx G _ _ _ ((r.mut he k1 k7.dropLast).set j rv) (Gle.refl _) q⟩
    · exact q.elim
  · exact q.elim
/-- y = xs.pop(e) -/
def sPopAt (i j : Nat) (md : M D) : MS := fun F en => match en[i]? with
  | some (.own xs) => md en fun d => match d with
    | .int n => -(2 ^ 63) ≤ n ∧ n < 2 ^ 63 ∧ (match seqIndex? n xs.length with
      | some k => (match xs[k]? with | some d => F.nx ((en.set i (.own (xs.eraseIdx k))).set j (.d d)) | none => False)
      | none => False)
    | _ => False
  | _ => False
/-- xs[e] = a -/
def sStx (i : Nat) (ma mi : M D) : MS := fun F en => ma en fun d => match en[i]? with
  | some (.own xs) => mi en fun n => match n with
    | .int n => (match ixN xs.length n with | some j => F.nx (en.set i (.own (xs.set j d))) | none => False)
    | _ => False
  | _ => False
theorem sd_stx {a b : Expr} {ma mi : M D} {tpos : Pos} (hN : X.N[i]? = some x) (hv : Vis X.env.scope x) (ha : PD (un X) a ma) (hb : PB (un X) b mi)
    (hx : ∀ v, assign (.Subscript (.Name x p1) b tpos) X.env v = (do let ov ← holding [v] (eval (.Name x p1) X.env); let iv ← holding [v, ov] (eval b X.env); standAt tpos; holding [v, ov, iv] (setItem ov iv v); release [v, ov, iv] []))
    (hs : swapsWithSole [.Subscript (.Name x p1) b tpos] a pos.line X.env = pure false) (hw : swappedStores [.Subscript (.Name x p1) b tpos] a X.env = pure none) (h1 : (assignEach [.Subscript (.Name x p1) b tpos] X.env).map (·.2) = [assign (.Subscript (.Name x p1) b tpos) X.env])
    (hd : (x == ("__debug__" : Str)) = false := by decide) (hcd : (x == ("__classdict__" : Str)) = false := by decide) : SD X (.Assign [.Subscript (.Name x p1) b tpos] a pos) (sStx i ma mi) := by
  obtain ⟨t, a1, a2⟩ := ha.ex
  obtain ⟨u, b1, b2⟩ := hb.ex
  refine ⟨_, ps_asg (a1 ()) (pg_sub (pe_var hN hv hd hcd) (b1 ()) set_list hx) hs hw h1, fun B G en σ H F E r q k => a2 B G en σ H _ _ r q fun v H1 G1 d s g rp q1 => ?_⟩
  have r1 := r.step s g
  split at q1
  · rename_i xs he
    obtain ⟨o, k1, l, vs, k2, k3, k4, k5, k6, k7⟩ := r1.sl i _ he
    subst k2
    refine ⟨.ref l, k1, b2 B G1 en σ H1 _ _ r1 q1 fun w H2 G2 n s2 g2 rn q2 => ?_⟩
    cases n <;> try exact False.elim q2
    cases rn
    rename_i n
    have k7' := k7.mono s2.le
    have q2' : (match ixN xs.length n with | some j => F.nx (en.set i (.own (xs.set j d))) | none => False) := q2
    rw [k7'.length] at q2'
    cases hj : ixN vs.length n with
    | none =>
      rw [hj] at q2'
      exact False.elim q2'
    | some j =>
      rw [hj] at q2'
      exact ⟨l, vs, n, j, rfl, rfl, s2.keep _ _ k3 k5, hj, k.nx G2 _ _ _ ((r1.step s2 g2).mut he k1 (RepL.set (rp.mono s2.le) j k7')) (s.le.trans s2.le) q2'⟩
  · exact q1.elim

/-! ### loops -/
def forL (mg : D → En → (En → Prop) → Prop) (mb : MS) (F : Fin) : List D → En → Prop
  | [], en => F.nx en
  | x :: xs, en => mg x en fun en2 => mb { F with nx := forL mg mb F xs, ct := forL mg mb F xs, bk := F.nx } en2
def sFor (mi : M (List D)) (mg : D → En → (En → Prop) → Prop) (mb : MS) : MS := fun F en => mi en fun xs => forL mg mb F xs en
theorem sd_for {vs : List Nat} {tg iter : Expr} {body : List Stmt} {mi : M (List D)} {mg : D → En → (En → Prop) → Prop} {mb : MS} (hp : PassesOwn (model X.prog X.w) X.A X.env X.xe) (hc : X.calm = true) (hi : PId (un X) tg iter mi) (hg : PGd (un X) vs tg mg) (hb : SDs X body mb)
    (hs : ∀ x, foldedSetIterable iter X.env x = pure x) : SD X (.For tg iter body [] pos) (sFor mi mg mb) := by
  obtain ⟨t1, a1, a2⟩ := hi.ex
  obtain ⟨t2, b1, b2⟩ := hg.ex
  obtain ⟨t3, c1, c2⟩ := hb.ex
  refine ⟨_, ps_for hp hc (a1 ()) (b1 ()) c1 hs, fun B G en σ H F E r q k => a2 B G en σ H _ _ r q fun J H1 G1 xs s1 g1 w1 q1 => ?_⟩
  refine ⟨fun i mm τ Hc => i ≤ xs.length ∧ mm = xs.length - i ∧ ∃ Gc ec, Rel B Gc ec τ Hc ∧ Gle G1 Gc ∧ forL mg mb F (xs.drop i) ec, ⟨xs.length, Nat.zero_le _, rfl, G1, en, r.step s1 g1, Gle.refl _, q1⟩, fun i mm τ Hc hW => ?_⟩
  obtain ⟨hle, hm, Gc, ec, rc, lc, hq⟩ := hW
  obtain ⟨wgo, wstop, wy⟩ := w1 i Gc Hc lc rc.g
  by_cases hlt : i < xs.length
  · refine .inr ⟨wgo hlt, fun τ' H' => ∃ Gd ed, Rel B Gd ed τ' H' ∧ Gle G1 Gd ∧ forL mg mb F (xs.drop (i + 1)) ed, ?_, fun x H2 hy => ?_⟩
    · rintro τ' H' ⟨Gd, ed, h1, h2, h3⟩
      exact ⟨xs.length - (i + 1), by omega, by omega, rfl, Gd, ed, h1, h2, h3⟩
    · obtain ⟨G2, s2, g2, rx⟩ := wy x H2 _ (List.getElem?_eq_getElem hlt) hy
      rw [List.drop_eq_getElem_cons hlt] at hq
      refine b2 B G2 ec τ H2 x _ _ _ (rc.step s2 g2) rx hq fun e3 τ3 r3 _ q3 => ?_
      have l3 : Gle G1 G2 := lc.trans s2.le
      exact c2 B G2 e3 τ3 H2 _ _ r3 q3 ⟨fun G' en' σ' H' r' l q' => ⟨G', en', r', l3.trans l, q'⟩, k.rt, fun G' en' σ' H' r' l q' => k.nx G' en' σ' H' r' (s1.le.trans (l3.trans l)) q', fun G' en' σ' H' r' l q' => ⟨G', en', r', l3.trans l, q'⟩⟩
  · have hi : xs.length ≤ i := Nat.le_of_not_lt hlt
    rw [List.drop_eq_nil_of_le hi] at hq
    exact .inl ⟨wstop hi, k.nx Gc ec τ Hc rc (s1.le.trans lc) hq⟩
def whN (mt : M Bool) (mb : MS) (F : Fin) : Nat → En → Prop
  | 0, _ => False
  | n + 1, en => mt en fun b => if b = true then mb { F with nx := whN mt mb F n, ct := whN mt mb F n, bk := F.nx } en else F.nx en
def sWh (mt : M Bool) (mb : MS) : MS := fun F en => ∃ n, whN mt mb F n en
theorem sd_while {c : Expr} {body : List Stmt} {mb : MS} (hp : PassesOwn (model X.prog X.w) X.A X.env X.xe) (hc : PTd (un X) c mt) (hb : SDs X body mb) : SD X (.While c body [] pos) (sWh mt mb) := by
  obtain ⟨t1, a1, a2⟩ := hc.ex
  obtain ⟨t3, c1, c2⟩ := hb.ex
  refine ⟨_, ps_while hp (a1 ()) c1, fun B G en σ H F E r q k => ?_⟩
  obtain ⟨n, hn⟩ := q
  refine ⟨fun m τ Hc => ∃ Gc ec, Rel B Gc ec τ Hc ∧ Gle G Gc ∧ whN mt mb F m ec, ⟨n, G, en, r, Gle.refl _, hn⟩, fun m τ Hc hW => ?_⟩
  obtain ⟨Gc, ec, rc, lc, hq⟩ := hW
  cases m with
  | zero => exact False.elim hq
  | succ m =>
    refine a2 B Gc ec τ Hc _ _ rc hq fun b H1 G1 s1 g1 q1 => ?_
    have l1 := lc.trans s1.le
    cases b with
    | true =>
      rw [if_pos rfl]
      have q1' : mb { F with nx := whN mt mb F m, ct := whN mt mb F m, bk := F.nx } ec := q1
      refine ⟨fun τ' H' => ∃ Gd ed, Rel B Gd ed τ' H' ∧ Gle G Gd ∧ whN mt mb F m ed, fun τ' H' h => ⟨m, Nat.lt_succ_self _, h⟩, ?_⟩
      exact c2 B G1 ec τ H1 _ _ (rc.step s1 g1) q1' ⟨fun G' en' σ' H' r' l q' => ⟨G', en', r', l1.trans l, q'⟩, k.rt, fun G' en' σ' H' r' l q' => k.nx G' en' σ' H' r' (l1.trans l) q', fun G' en' σ' H' r' l q' => ⟨G', en', r', l1.trans l, q'⟩⟩
    | false =>
      rw [if_neg (by decide)]
      exact k.nx G1 ec τ H1 (rc.step s1 g1) l1 q1
end
end DL

set_option Elab.async false
set_option linter.all false
set_option maxRecDepth 100000
namespace DL
open PySem PySem.Spec PyProof.Rows L2

/-! ### defs: promises kept where nothing is being shown -/
structure FnG (P : Program) (w : World) (K : Frg) (mg : Str → Option Value) (base : Heap) (k : Nat) (f : Addr) (fd : FuncData) (ps : List Str) (sp : Sp) : Prop where
  len : ∀ vs H Q E, sp vs H Q E → vs.length = ps.length
  run : ∀ (A : Around) (outer : List Env) (s : Shared) (H : Hp) (args : Args) (us : List Value) (vs : List V) (Q : VK) (E : XK), Room k A → A.guards = some [] →
    Env0 P w K mg base A outer s H → BindsTo s fd args (ps.zip us) → Vals vs us → sp vs H Q E → codeAny (model P w) A (.call (.ref f) args) (CR CX0 outer P w H s Q E) s
theorem FnG.of {P : Program} {w : World} {K : Frg} {mg : Str → Option Value} {base : Heap} {k : Nat} {f : Addr} {fd : FuncData} {ps : List Str} {sp : Sp} (h : FnOk P w K mg base CX0 k f fd ps sp) : FnG P w K mg base k f fd ps sp :=
  ⟨h.len, fun A outer s H args us vs Q E hr _ e b r q => h.run A outer s H args us vs Q E hr e b r q⟩
theorem FnG.imp {P : Program} {w : World} {K : Frg} {mg : Str → Option Value} {base : Heap} {k : Nat} {f : Addr} {fd : FuncData} {ps : List Str} {sp sp' : Sp} (h : FnG P w K mg base k f fd ps sp) (i : ∀ vs H Q E, sp' vs H Q E → sp vs H Q E) : FnG P w K mg base k f fd ps sp' :=
  ⟨fun vs H Q E q => h.len vs H Q E (i _ _ _ _ q), fun A outer s H args us vs Q E hr hg e b r q => h.run A outer s H args us vs Q E hr hg e b r (i _ _ _ _ q)⟩
abbrev bodyX (P : Program) (w : World) (K : Frg) (mg : Str → Option Value) (base : Heap) (N : List Str) (qual : Str) (sc : Scope) (f : Addr) (cdv : Value) (A : Around) (outer : List Env) (s : Shared) (H : Hp) (E : XK) : Cx :=
  (cxOf CX0 P w K mg base N qual sc f cdv A outer s H E).nox
theorem fng_of {P : Program} {w : World} {K : Frg} {mg : Str → Option Value} {base : Heap} {x qual : Str} {st : Stmt} {f : Addr} {fd : FuncData} {N ps : List Str} {k : Nat} {sp : Sp} (F : Fun K x qual st f fd) (S : FnScope N ps (defScope st)) (len : ∀ vs H Q E, sp vs H Q E → vs.length = ps.length)
    (hbody : ∀ (cdv : Value) (A : Around) (outer : List Env) (s : Shared) (H : Hp) (vs : List V) (Q : VK) (E : XK), Room k (A.deeper (envOfC qual (defScope st) s.heap.objs.size f cdv)) → A.guards = some [] → sp vs H Q E →
      ∃ t, PSs (bodyX P w K mg base N qual (defScope st) f cdv A outer s H E) (defBody st) t ∧ t { nx := fun _ H' => Q .non H', rt := Q } (L2.start N vs) H) : FnG P w K mg base (k + 1) f fd ps sp := by
  obtain ⟨oc, od, kV, doc, pm, an, cdv, ct, osl, rfl, lk, hcd⟩ := F.ex
  constructor
  · exact len
  intro A outer s H args us vs Q E hr hg e0 hb r hsp
  have hl := len _ _ _ _ hsp
  have KX : K.In s.heap := e0.mod.kin.keeps (fun b o e => (e0.bs b o e).1)
  have lim : s.heap.NoLimit := e0.mod.nolimit.keeps (fun b o e => (e0.bs b o e).1)
  refine codeAny_call_function hr.depth (KX _ _ lk) rfl S.co S.gen rfl (PySem.W.codeRec_of KX hcd) (hb _ _ _ _ ?_)
  refine wpAny_newFunctionEnv_cells S.kind (fun y hy => ?_) fun env he s1 xx => ?_
  · obtain ⟨n, v⟩ := y
    rcases S.par n (List.of_mem_zip hy).1 with q | q
    · exact Or.inl q
    · exact Or.inr ⟨q, PySem.W.cellsFrom_some _ _ _ (Or.inl q)⟩
  subst he
  refine ⟨lim.keeps xx.toInCall.keep, codeAny_func ?_⟩
  obtain ⟨t, ht, hq⟩ := hbody cdv A outer s H vs Q E (hr.deeper _) hg hsp
  have I0 : Inv (cxOf CX0 P w K mg base N qual (defScope st) f cdv A outer s H E) [] (L2.start N vs) H s1 := inv_start S hr.hd e0 hl r xx
  have ht' := ht.nox
  refine wpAny_mono (ht'.run [] s1 (L2.start N vs) H _ I0 hq) (fun fl s' hs => ?_) (fun e s' hs => hs)
  cases fl with
  | ret u =>
    obtain ⟨v, τ, H', J, rv, q⟩ := hs
    exact ⟨v, H', J.os, J.bare, J.base, J.hok, rv, q⟩
  | next =>
    obtain ⟨τ, H', J, q⟩ := hs
    exact ⟨.non, H', J.os, J.bare, J.base, J.hok, rfl, q⟩
  | brk => exact hs.elim fun _ z => z.elim fun _ z => z.2.elim
  | cont => exact hs.elim fun _ z => z.elim fun _ z => z.2.elim

/-- a promise as data: f of the arguments -/
def SpD (f : List D → (D → Prop) → Prop) : Sp := fun vs H Q _ => ∃ (G : Gh) (ds : List D) (P : D → Prop), GRel G H ∧ RepL G ds vs ∧ f ds P ∧ ∀ v H' G' d, Step G H G' H' → GRel G' H' → Rep G' d v → P d → Q v H'
/-- what a def's body computes: n parameters, l names -/
def fnM (n l : Nat) (m : MS) : List D → (D → Prop) → Prop := fun ds Q => ds.length = n ∧ m { nx := fun _ => Q .non, rt := Q } (ds.map .d ++ List.replicate (l - n) .u)
theorem start_rel {G : Gh} {H : Hp} {ds : List D} {vs : List V} {N : List Str} (g : GRel G H) (r : RepL G ds vs) : Rel ⟨G, H⟩ G (ds.map .d ++ List.replicate (N.length - ds.length) .u) (L2.start N vs) H where
  g := g
  st := Step.refl _ _
  len := by
    unfold L2.start
    rw [List.length_append, List.length_append, List.length_map, List.length_map, List.length_replicate, List.length_replicate, r.length]
  sl := fun i s h => by
    unfold L2.start
    by_cases hi : i < ds.length
    · rw [List.getElem?_append_left (by rw [List.length_map]; exact hi), List.getElem?_map, List.getElem?_eq_getElem hi] at h
      cases h
      obtain ⟨v, hv, rv⟩ := r.get (List.getElem?_eq_getElem hi)
      refine ⟨some v, ?_, v, rfl, rv⟩
      rw [List.getElem?_append_left (by rw [List.length_map, ← r.length]; exact hi), List.getElem?_map, hv]
      rfl
    · have hi' : ds.length ≤ i := Nat.le_of_not_lt hi
      rw [List.getElem?_append_right (by rw [List.length_map]; exact hi'), List.getElem?_replicate] at h
      split at h
      · rename_i hlt
        cases h
        refine ⟨none, ?_, trivial⟩
        rw [List.getElem?_append_right (by rw [List.length_map, ← r.length]; exact hi'), List.getElem?_replicate, if_pos]
        rw [List.length_map] at hlt ⊢
        rw [← r.length]
        exact hlt
      · cases h
  dis := fun i j xs ys a h1 _ _ _ => by
    by_cases hi : i < ds.length
    · rw [List.getElem?_append_left (by rw [List.length_map]; exact hi), List.getElem?_map, List.getElem?_eq_getElem hi] at h1
      cases h1
    · rw [List.getElem?_append_right (by rw [List.length_map]; exact Nat.le_of_not_lt hi), List.getElem?_replicate] at h1
      split at h1
      · cases h1
      · cases h1
/-- a def of the text, known by its name: level k, what it computes f -/
structure FnD (P : Program) (w : World) (K : Frg) (mg : Str → Option Value) (base : Heap) (k : Nat) (x : Str) (f : List D → (D → Prop) → Prop) : Prop where
  ex : ∃ fa fd ps, FnG P w K mg base k fa fd ps (SpD f) ∧ mg x = some (.ref fa) ∧ PySem.W.keepIn K (.ref fa) = true ∧ Binds K fd ps []
theorem fn_body {P : Program} {w : World} {K : Frg} {mg : Str → Option Value} {base : Heap} {x qual : Str} {st : Stmt} {f : Addr} {fd : FuncData} {N ps : List Str} {k : Nat} {m : MS} (F : Fun K x qual st f fd) (S : FnScope N ps (defScope st))
    (hb : ∀ (cdv : Value) (A : Around) (outer : List Env) (s : Shared) (H : Hp) (E : XK), Room k (A.deeper (envOfC qual (defScope st) s.heap.objs.size f cdv)) → A.guards = some [] → SDs (bodyX P w K mg base N qual (defScope st) f cdv A outer s H E) (defBody st) m) :
    FnG P w K mg base (k + 1) f fd ps (SpD (fnM ps.length N.length m)) := by
  refine fng_of F S (fun vs H Q E h => ?_) fun cdv A outer s H vs Q E hr hg h => ?_
  · obtain ⟨G, ds, P', g, r, q, _⟩ := h
    rw [← r.length]
    exact q.1
  · obtain ⟨G, ds, P', g, r, ⟨q1, q2⟩, c⟩ := h
    obtain ⟨t, a, b⟩ := (hb cdv A outer s H E hr hg).ex
    rw [← q1] at q2
    refine ⟨t, a, b ⟨G, H⟩ G _ _ H _ _ (start_rel g r) q2 ⟨fun G' en' σ' H' r' l q' => c _ H' G' .non r'.st r'.g rfl q', fun G' v H' d s' g' rp q' => c v H' G' d s' g' rp q', fun _ _ _ _ _ _ q' => q'.elim, fun _ _ _ _ _ _ q' => q'.elim⟩⟩
theorem fnd_mk {P : Program} {w : World} {K : Frg} {mg : Str → Option Value} {base : Heap} {x qual : Str} {st : Stmt} {f : Addr} {fd : FuncData} {ps : List Str} {k : Nat} {f' : List D → (D → Prop) → Prop} (F : Fun K x qual st f fd) (h : FnG P w K mg base k f fd ps (SpD f')) (hm : mg x = some (.ref f)) (b : Binds K fd ps []) : FnD P w K mg base k x f' :=
  ⟨f, fd, ps, h, hm, F.kp, b⟩
theorem FnD.imp {P : Program} {w : World} {K : Frg} {mg : Str → Option Value} {base : Heap} {k : Nat} {x : Str} {f f' : List D → (D → Prop) → Prop} (h : FnD P w K mg base k x f) (i : ∀ ds Q, f' ds Q → f ds Q) : FnD P w K mg base k x f' := by
  obtain ⟨fa, fd, ps, h1, h2⟩ := h.ex
  exact ⟨fa, fd, ps, h1.imp fun vs H Q E ⟨G, ds, P, a, b, c, d⟩ => ⟨G, ds, P, a, b, i _ _ c, d⟩, h2⟩

section
variable {X : Cx} {k : Nat} {f : Addr} {fd : FuncData} {ps : List Str} {sp : Sp} {x : Str} {p pos : Pos} {e : Expr} {es : List Expr} {t : TA}
theorem run_fnG {pins : List (Addr × Obj)} {σ : L2.St} {H : Hp} {s : Shared} {Q : VK} {us : List Value} {vs : List V} (F : FnG X.prog X.w X.K X.mg X.base k f fd ps sp) (hr : Room k X.A) (hg : X.A.guards = some []) (hb : Binds X.K fd ps [])
    (I : Inv X pins σ H s) (r : Vals vs us) (h : sp vs H Q E0) : wpAny (model X.prog X.w) X.A (call (.ref f) us) (EP X pins σ Q) X.xe s := by
  have hl : (us ++ []).length = ps.length := by
    rw [List.append_nil, ← r.length]
    exact F.len _ _ _ _ h
  have hb' := hb s us I.kIn hl
  rw [List.append_nil] at hb'
  refine wpAny_call (codeAny_mono (F.run X.A X.stack s H ⟨us, []⟩ us vs Q E0 hr hg I.env0 hb' r h) fun rr s' hq => ?_)
  cases rr with
  | error e => exact False.elim hq
  | ok fl =>
    cases fl with
    | ret u => exact I.after hq
    | next => exact False.elim hq
    | brk => exact False.elim hq
    | cont => exact False.elim hq
theorem pe_callG (F : FnG X.prog X.w X.K X.mg X.base k f fd ps sp) (hr : Room k X.A) (hG : X.A.guards = some []) (hg : Gl X x) (hm : X.mg x = some (.ref f)) (hk : PySem.W.keepIn X.K (.ref f) = true) (hb : Binds X.K fd ps [])
    (ha : PA X (e :: es) t) (hdb : (x == ("__debug__" : Str)) = false) (he : starEach (e :: es) X.env = (false, eval e X.env) :: starEach es X.env) (hpl : (backTo pos (starEach es X.env)).any (·.1) = false) :
    PE X (.Call (.Name x p) (e :: es) [] pos) (tCall sp [] E0 t) := by
  constructor
  intro pins s σ H Q I h
  refine wpAny_Call_Name_kw (ld_glob I hg hm ?_ hdb)
  refine PySem.W.callWith_K (h₀ := X.base) I.ok.mod.kin hk (thn (ha.run pos pins s σ H _ I h) fun us s1 z => ?_) he hpl
  obtain ⟨vs, H1, I1, r, q⟩ := z
  have q' : sp (vs ++ []) H1 Q E0 := q
  rw [List.append_nil] at q'
  exact ⟨I1.kIn, run_fnG F hr hG hb I1 r q'⟩
end
section
variable {ι : Type} {X : ι → Cx} {P : Program} {w : World} {K : Frg} {mg : Str → Option Value} {base : Heap} {k : Nat} {x : Str} {p pos : Pos} {e : Expr} {es : List Expr} {mr : M (List D)} {f : List D → (D → Prop) → Prop}
theorem pd_call (F : FnD P w K mg base k x f) (h1 : ∀ i, (X i).prog = P) (h2 : ∀ i, (X i).w = w) (h3 : ∀ i, (X i).K = K) (h4 : ∀ i, (X i).mg = mg) (h5 : ∀ i, (X i).base = base) (hr : ∀ i, Room k (X i).A) (hG : ∀ i, (X i).A.guards = some []) (hg : ∀ i, Gl (X i) x)
    (ha : PAd X (e :: es) mr) (hdb : (x == ("__debug__" : Str)) = false := by decide) (he : ∀ i, starEach (e :: es) (X i).env = (false, eval e (X i).env) :: starEach es (X i).env := by intro _; rfl) (hpl : ∀ i, (backTo pos (starEach es (X i).env)).any (·.1) = false := by intro _; rfl) :
    PD X (.Call (.Name x p) (e :: es) [] pos) (mCall f mr) := by
  obtain ⟨t, a1, a2⟩ := ha.ex
  obtain ⟨fa, fd, ps, F1, F2, F3, F4⟩ := F.ex
  refine ⟨_, fun i => pe_callG (X := X i) (f := fa) (fd := fd) (ps := ps) (sp := SpD f) (by rw [h1, h2, h3, h4, h5]; exact F1) (hr i) (hG i) (hg i) (by rw [h4]; exact F2) (by rw [h3]; exact F3) (by rw [h3]; exact F4) (a1 i) hdb (he i) (hpl i), fun B G en σ H Q k r q c => ?_⟩
  refine a2 B G en σ H _ _ r q fun vs H1 G1 ds s1 g1 r1 q1 => ?_
  show SpD f (vs ++ []) H1 k E0
  rw [List.append_nil]
  exact ⟨G1, ds, Q, g1, r1, q1, fun v H' G' d s g rp q' => c v H' G' d (s1.trans s) g rp q'⟩
end

/-! ### the source of draws -/
/-- a draw below n -/
def pickM : List D → (D → Prop) → Prop
  | [.src, .int n], Q => n.natAbs.log2 < 9000 ∧ ∀ r : Int, 0 ≤ r → r < max 1 n → Q (.int r)
  | _, _ => False
/-- the source is made from the script -/
def spOpen (K : Frg) : Sp := fun vs H Q _ => ∃ (a : Addr) (ns : List Int), vs = [.ref a] ∧ SqL K H a (ns.map V.int) ∧ ns.length ≤ 63 ∧ ∀ H' ds cs, Same H H' → H ds = none → H cs = none → ds ≠ cs → SrcOk H' ds cs → Q (.ref ds) H'
/-- a draw, over the source's cells alone -/
def spPick : Sp := fun vs H Q _ => ∃ ds cs n, vs = [.ref ds, .int n] ∧ SrcOk H ds cs ∧ ds ≠ cs ∧ n.natAbs.log2 < 9000 ∧
  ∀ r H', 0 ≤ r → r < max 1 n → SrcOk H' ds cs → (∀ b, b ≠ ds → b ≠ cs → H' b = H b) → Q (.int r) H'
theorem pick_of {P : Program} {w : World} {K : Frg} {mg : Str → Option Value} {base : Heap} {k : Nat} {f : Addr} {fd : FuncData} {ps : List Str} (h : FnG P w K mg base k f fd ps spPick) : FnG P w K mg base k f fd ps (SpD pickM) := by
  refine h.imp fun vs H Q E h => ?_
  obtain ⟨G, ds, P', g, r, q, c⟩ := h
  match ds, r, q with
  | [.src, .int n], ⟨v, _, e, h, w, _, e2, h', e'⟩, q =>
    subst e
    subst e2
    cases e'
    cases h'
    obtain ⟨p, hp, e⟩ := h
    subst e
    obtain ⟨g1, g2, g3, g4⟩ := g.s p hp
    refine ⟨p.1, p.2, n, rfl, g4, g3, q.1, fun r H' h0 h1 ok un => ?_⟩
    have hs : ∀ b, ¬ G.isS b → H' b = H b := fun b hb => un b (fun e => hb ⟨p, hp, .inl e⟩) fun e => hb ⟨p, hp, .inr e⟩
    refine c _ H' G (.int r) ⟨Same.refl _, fun _ h => h, fun b o h hb => by rw [hs b hb]; exact h, fun b o h => ?_, fun _ _ _ h => h, fun _ _ _ h => h⟩ ⟨fun b o h => ?_, fun p' hp' => ?_⟩ rfl (q.2 r h0 h1)
    · by_cases hb : G.isS b
      · obtain ⟨p', hp', e⟩ := hb
        rw [hp] at hp'
        cases hp'
        obtain ⟨_, _, _, _, k1, k2⟩ := ok
        rcases e with e | e
        · rw [e]
          exact ⟨_, k1⟩
        · rw [e]
          exact ⟨_, k2⟩
      · exact ⟨o, by rw [hs b hb]; exact h⟩
    · rw [hs b (g.noS h)]
      exact g.f b o h
    · rw [hp] at hp'
      cases hp'
      exact ⟨g1, g2, g3, ok⟩

/-! ### the law -/
def spLaw (K : Frg) : Sp := fun vs H Q _ => ∃ (a : Addr) (ns : List Int), vs = [.ref a] ∧ SqL K H a (ns.map V.int) ∧ ns.length ≤ 63 ∧ ∀ H', Q (.bl true) H'
/-- the names behind the source's making: it stands at j of l -/
def env0 (l j : Nat) : En := (List.replicate l Slot.u).set j (.d .src)
def Law (l j : Nat) (m : MS) : Prop := m { nx := fun _ => False, rt := fun d => d = .bl true } (env0 l j)
theorem law_body {P : Program} {w : World} {K : Frg} {mg : Str → Option Value} {base : Heap} {qual x xs so pp2 : Str} {st : Stmt} {f fo : Addr} {fd fdo : FuncData} {N pso : List Str} {k j : Nat} {m : MS} {pp p1 p2 p3 p4 : Pos} {rest : List Stmt} (F : Fun K x qual st f fd)
    (S : FnScope N [xs] (defScope st)) (hbd : defBody st = .Assign [.Name so p1] (.Call (.Name pp2 p2) [.Name xs p3] [] p4) pp :: rest) (FO : FnG P w K mg base k fo fdo pso (spOpen K)) (mO : mg pp2 = some (.ref fo)) (kO : PySem.W.keepIn K (.ref fo) = true) (bO : Binds K fdo pso [])
    (hN0 : N[0]? = some xs) (hNj : N[j]? = some so) (hj : j ≠ 0) (hv : Vis (defScope st) xs) (hl : Loc (defScope st) so) (hgl : ∀ (s : Nat) (cdv : Value), (envOfC qual (defScope st) s f cdv).kindOf pp2 = some .globalImplicit)
    (hdb : (pp2 == ("__debug__" : Str)) = false) (hd : (xs == ("__debug__" : Str)) = false) (hcd : (xs == ("__classdict__" : Str)) = false)
    (hsw : ∀ env, swapsWith (.Call (.Name pp2 p2) [.Name xs p3] [] p4) (some (.Name so p1)) pp.line env = pure false)
    (hb : ∀ (cdv : Value) (A : Around) (outer : List Env) (s : Shared) (H : Hp) (E : XK), Room k (A.deeper (envOfC qual (defScope st) s.heap.objs.size f cdv)) → A.guards = some [] → SDs (bodyX P w K mg base N qual (defScope st) f cdv A outer s H E) rest m)
    (law : Law N.length j m) : FnG P w K mg base (k + 1) f fd [xs] (spLaw K) := by
  refine fng_of F S (fun vs H Q E h => ?_) fun cdv A outer s H vs Q E hr hg h => ?_
  · obtain ⟨a, ns, e, _⟩ := h
    rw [e]
    rfl
  · obtain ⟨a, ns, e, hS, hlen, q⟩ := h
    subst e
    obtain ⟨t, b1, b2⟩ := (hb cdv A outer s H E hr hg).ex
    rw [hbd]
    refine ⟨_, pss_cons (ps_set S.nd hNj hl (pe_callG FO hr hg (hgl _ cdv) mO kO bO (pa_cons (pe_var hN0 hv hd hcd) pa_nil rfl) hdb rfl rfl) (hsw _) (.inl rfl)) b1, ?_⟩
    have hN : 0 < N.length := (List.getElem?_eq_some_iff.mp hN0).1
    have hs0 : (L2.start N [V.ref a])[0]? = some (some (.ref a)) := rfl
    refine ⟨.ref a, hs0, a, ns, rfl, hS, hlen, fun H' ds cs sm nd nc hne ok => ?_⟩
    let G : Gh := ⟨fun _ => none, some (ds, cs)⟩
    have g : GRel G H' := by
      refine ⟨fun b o h => ?_, fun p hp => ?_⟩
      · have h' : (none : Option HO) = some o := h
        cases h'
      · have h' : some (ds, cs) = some p := hp
        cases h'
        exact ⟨rfl, rfl, hne, ok⟩
    have hlenS : (L2.start N [V.ref a]).length = N.length := by
      unfold L2.start
      rw [List.length_append, List.length_map, List.length_replicate]
      show 1 + (N.length - 1) = N.length
      omega
    have r0 : Rel ⟨G, H'⟩ G (List.replicate N.length Slot.u) (L2.start N [V.ref a]) H' := by
      refine ⟨g, Step.refl _ _, by rw [List.length_replicate, hlenS], fun i sl h => ?_, fun i j xs ys b h1 _ _ _ => ?_⟩
      · rw [List.getElem?_replicate] at h
        split at h
        · rename_i hi
          cases h
          exact ⟨_, List.getElem?_eq_getElem (by rw [hlenS]; exact hi), trivial⟩
        · cases h
      · rw [List.getElem?_replicate] at h1
        split at h1
        · cases h1
        · cases h1
    have r1 := r0.set j (x := .src) (v := .ref ds) ⟨(ds, cs), rfl, rfl⟩
    refine b2 ⟨G, H'⟩ G _ _ H' _ _ r1 law ⟨fun _ _ _ _ _ _ z => z.elim, fun G' v H2 d s2 g2 rp z => ?_, fun _ _ _ _ _ _ z => z.elim, fun _ _ _ _ _ _ z => z.elim⟩
    subst z
    cases rp
    exact q H2
end DL

set_option Elab.async false
set_option linter.all false
set_option maxRecDepth 100000
namespace DL
open PySem PySem.Spec PyProof.Rows L2

/-- the law's call from the caller, by a promise that wants nothing shown -/
theorem callG {P : Program} {w : World} {K : Frg} {mg mb : Str → Option Value} {k : Nat} {fa a : Addr} {fd : FuncData} {x : Str} {sp : Sp} {s1 : Shared} {vs : List Value} {ns : List Int}
    (KX : K.In s1.heap) (hns : s1.heap.Ns mainGlobals mg) (hb : s1.heap.Ns builtinsNs mb) (hbb : ∀ x : Str, x ≠ "__name__" → mb x = bootBuiltins x) (hlim : s1.heap.NoLimit) (hgn : s1.gens = #[])
    (ha : s1.heap.get? a = some { cls := .type "list", data := .seq vs.toArray }) (hi : IntsAre vs ns) (hl : ns.length ≤ sizeLine) (hr : Room k callerA)
    (F : ∀ base : Heap, K.In base → base.Ns mainGlobals mg → FnG P w K mg base k fa fd [x] sp) (hbind : ∀ (s : Shared) (u : Value), BindsTo s fd ⟨[u], []⟩ [(x, u)])
    (hsp : ∀ H : Hp, SqL K H a (ns.map V.int) → sp [.ref a] H (fun v _ => v = .bl true) fun _ _ _ => False) :
    codeAny (model P w) callerA (.call (.ref fa) ⟨[.ref a], []⟩) (fun r s' => r = .ok (.ret (.bool true)) ∧ OldK s1.heap s'.heap ∧ s'.os = s1.os ∧ AllBare s'.gens) s1 := by
  have rv := vals_ints hi
  have lenV := hi.length
  -- at most the script is tracked, and it is locked
  have go : ∀ H : Hp, (∀ b, H b = none ∨ (b = a ∧ K.lookup a = none ∧ ∃ o zs, H b = some (.frz o (.lst zs)))) → SqL K H a (ns.map V.int) → HOk P w H s1.heap →
      codeAny (model P w) callerA (.call (.ref fa) ⟨[.ref a], []⟩) (fun r s' => r = .ok (.ret (.bool true)) ∧ OldK s1.heap s'.heap ∧ s'.os = s1.os ∧ AllBare s'.gens) s1 := by
    intro H hO hS hok
    have hid : ∀ {b : Addr} {o : Obj}, s1.heap.get? b = some o → H b = none → (hidT s1.heap H).get? b = some o := fun e n => hidT_get e n
    have hdict : ∀ {b : Addr} {o : Obj} {es : Array DictEntry} {ep : Nat}, s1.heap.get? b = some o → o.data = .dict es ep → H b = none := by
      intro b o es ep e d
      rcases hO b with z | ⟨z, _, _⟩
      · exact z
      · rw [z, ha] at e
        cases e
        cases d
    have hns' : ∀ {b : Addr} {m : Str → Option Value}, s1.heap.Ns b m → (hidT s1.heap H).Ns b m := by
      intro b m h
      obtain ⟨o, es, ep, e, d, r⟩ := h
      exact ⟨o, es, ep, hid e (hdict e d), d, r⟩
    have hKb : K.In (hidT s1.heap H) := by
      intro b o e
      refine hid (KX b o e) ?_
      rcases hO b with z | ⟨z, z2, _⟩
      · exact z
      · rw [z, z2] at e
        cases e
    have hM : Mod K mg (hidT s1.heap H) := by
      obtain ⟨mc, l1, l2⟩ := hlim
      exact ⟨hKb, hns' hns, ⟨mb, hns' hb, hbb⟩, mc, hns' l1, l2⟩
    have e0 : Env0 P w K mg (hidT s1.heap H) callerA [] s1 H := by
      refine ⟨rfl, hM, fun b o e => of_hidT e, Nat.le_of_eq (hidT_size _ _), trivial, fun b hb => ?_, hok, .of_eq hgn⟩
      cases hb
    refine codeAny_mono ((F _ hKb (hns' hns)).run callerA [] s1 H ⟨[.ref a], []⟩ [.ref a] [.ref a] _ _ hr rfl e0 (hbind s1 (.ref a)) (.cons rfl .nil) (hsp H hS)) fun r s' h => ?_
    cases r with
    | error e => exact False.elim h
    | ok fl =>
      cases fl with
      | next => exact False.elim h
      | brk => exact False.elim h
      | cont => exact False.elim h
      | ret u =>
        obtain ⟨v, H', os, bare, un, hok', r', q⟩ := h
        have q' : v = .bl true := q
        subst q'
        have hu : u = Value.bool true := r'
        subst hu
        refine ⟨rfl, OldK.of_keep fun b o e => ?_, os, bare⟩
        have none_in : b ∉ frs ([] : List Env) ∧ b ∉ ([] : List Addr) := by
          constructor
          · intro z
            have z' : b ∈ ([] : List Addr) := z
            cases z'
          · intro z
            cases z
        rcases hO b with z | ⟨_, _, ob, zs, z⟩
        · exact un.keep b o e z none_in.1 none_in.2
        · obtain ⟨e1, _⟩ := hok b _ z
          obtain ⟨e2, _⟩ := hok' b _ (un.frzs b ob _ z)
          rw [e] at e1
          cases e1
          exact e2
  cases hk : K.lookup a with
  | some o =>
    have e := KX a o hk
    rw [ha] at e
    cases e
    refine go (fun _ => none) (fun _ => .inl rfl) (.inr ⟨_, vs.toArray, _, hk, rfl, rfl, rfl, ?_, ?_⟩) (fun b u z => by cases z)
    · rw [List.size_toArray, lenV]
      exact hl
    · simpa using rv
  | none =>
    refine go (fun b => if b = a then some (.frz { cls := .type "list", data := .seq vs.toArray } (.lst (ns.map V.int))) else none) (fun b => ?_) (.inl (.inr ⟨_, if_pos rfl⟩)) (fun b u z => ?_)
    · by_cases hb : b = a
      · exact .inr ⟨hb, hk, _, _, if_pos hb⟩
      · exact .inl (if_neg hb)
    · by_cases hb : b = a
      · have z' := (if_pos hb).symm.trans z
        cases z'
        subst hb
        refine ⟨ha, ?_, vs, _, rv, ha⟩
        rw [List.length_map]
        exact hl
      · have z' := (if_neg hb).symm.trans z
        cases z'
theorem walkG {l : PySem.W.OpenLaw} {n k : Nat} {q : Program} {loose : List Str} {XP : (Str → Option Value) → Heap → Prop} {YP : World → Heap → Prop} {d : DefRec} {K : Params → Frg} {x : Str}
    (hn : l.most = some n) (hn2 : n ≤ 63) (hdf : d.params.defaults = []) (hr : Room k callerA) (hY : ∀ (w : World) (h : Heap), YP w h → (K w.params).In h)
    (F : ∀ (w : World) (mg : Str → Option Value) (fa : Addr) (h : Heap), (K w.params).In h → h.Ns mainGlobals mg → mg d.name = some (.ref fa) →
      ∃ fd : FuncData, (∀ (s : Shared) (u : Value), BindsTo s fd ⟨[u], []⟩ [(x, u)]) ∧ ∀ base : Heap, (K w.params).In base → base.Ns mainGlobals mg → FnG l.prog w (K w.params) mg base k fa fd [x] (spLaw (K w.params))) :
    PySem.W.WalkO q loose XP YP l.row.toRowW d [] (fun f vs => PySem.call f vs) := by
  refine Att.attach_call hn hdf fun w s0 s1 mg mb fa o pm cd doc a vs ns G Y ho hd hcd hmg hobj hints hlen hg => ?_
  have KX := hY w _ Y
  obtain ⟨fd, hb, hF⟩ := F w mg fa _ KX G.T.g hmg
  have hz : ns.length ≤ sizeLine := Nat.le_trans hlen (Nat.le_trans hn2 (by decide))
  exact callG KX G.T.g G.T.b G.T.builtins G.T.nolimit hg hobj hints hz hr hF hb fun H hS => ⟨a, ns, rfl, hS, Nat.le_trans hlen hn2, fun _ => rfl⟩
end DL

set_option Elab.async false
set_option linter.all false
set_option maxRecDepth 100000
namespace DL
open PySem PySem.Spec PyProof.Rows L2

/-! ### the two ways of drawing -/
def srcD (cs : Addr) (l m t : Int) : List (Key × V) := [(Sum.inr "cells", .ref cs), (Sum.inr "left", .int l), (Sum.inr "mixed", .int m), (Sum.inr "turn", .int t)]
theorem get_c (cs : Addr) (l m t : Int) : valV (srcD cs l m t) (Sum.inr "cells") = some (.ref cs) := rfl
theorem get_l (cs : Addr) (l m t : Int) : valV (srcD cs l m t) (Sum.inr "left") = some (.int l) := rfl
theorem get_m (cs : Addr) (l m t : Int) : valV (srcD cs l m t) (Sum.inr "mixed") = some (.int m) := rfl
theorem get_t (cs : Addr) (l m t : Int) : valV (srcD cs l m t) (Sum.inr "turn") = some (.int t) := rfl
theorem put_l (cs : Addr) (l m t x : Int) : putK (srcD cs l m t) (Sum.inr "left") (.int x) = srcD cs x m t := rfl
theorem put_m (cs : Addr) (l m t x : Int) : putK (srcD cs l m t) (Sum.inr "mixed") (.int x) = srcD cs l x t := rfl
theorem put_t (cs : Addr) (l m t x : Int) : putK (srcD cs l m t) (Sum.inr "turn") (.int x) = srcD cs l m x := rfl
/-- the source as it stands at ds, cs; all else as in H0 -/
def Sr (H0 : Hp) (ds cs : Addr) (H : Hp) (c : List Int) (l m t : Int) : Prop := H ds = some (.dK (srcD cs l m t)) ∧ H cs = some (.lst (c.map V.int)) ∧ ∀ b, b ≠ ds → b ≠ cs → H b = H0 b
section
variable {H0 H : Hp} {ds cs : Addr} {c : List Int} {l m t : Int}
theorem Sr.gl (s : Sr H0 ds cs H c l m t) : DGet H ds (.str "left") (some (.int l)) := DGet.k (k := Sum.inr "left") s.1
theorem Sr.gm (s : Sr H0 ds cs H c l m t) : DGet H ds (.str "mixed") (some (.int m)) := DGet.k (k := Sum.inr "mixed") s.1
theorem Sr.gt (s : Sr H0 ds cs H c l m t) : DGet H ds (.str "turn") (some (.int t)) := DGet.k (k := Sum.inr "turn") s.1
theorem Sr.gc (s : Sr H0 ds cs H c l m t) : DGet H ds (.str "cells") (some (.ref cs)) := DGet.k (k := Sum.inr "cells") s.1
theorem Sr.pl (s : Sr H0 ds cs H c l m t) (x : Int) : DPut H ds (.str "left") (.int x) (upd H ds (.dK (srcD cs x m t))) := DPut.k (k := Sum.inr "left") (v := .int x) s.1 (by show 4 < sizeLine; decide)
theorem Sr.pm (s : Sr H0 ds cs H c l m t) (x : Int) : DPut H ds (.str "mixed") (.int x) (upd H ds (.dK (srcD cs l x t))) := DPut.k (k := Sum.inr "mixed") (v := .int x) s.1 (by show 4 < sizeLine; decide)
theorem Sr.pt (s : Sr H0 ds cs H c l m t) (x : Int) : DPut H ds (.str "turn") (.int x) (upd H ds (.dK (srcD cs l m x))) := DPut.k (k := Sum.inr "turn") (v := .int x) s.1 (by show 4 < sizeLine; decide)
theorem Sr.set (s : Sr H0 ds cs H c l m t) (ne : ds ≠ cs) (l' m' t' : Int) : Sr H0 ds cs (upd H ds (.dK (srcD cs l' m' t'))) c l' m' t' :=
  ⟨upd_same, by rw [upd_ne ne.symm]; exact s.2.1, fun b h1 h2 => by rw [upd_ne h1]; exact s.2.2 b h1 h2⟩
theorem Sr.pop (s : Sr H0 ds cs H c l m t) (ne : ds ≠ cs) : Sr H0 ds cs (upd H cs (.lst (c.dropLast.map V.int))) c.dropLast l m t :=
  ⟨by rw [upd_ne ne]; exact s.1, upd_same, fun b h1 h2 => by rw [upd_ne h2]; exact s.2.2 b h1 h2⟩
theorem Sr.ok (s : Sr H0 ds cs H c l m t) : SrcOk H ds cs := ⟨c, l, m, t, s.1, s.2.1⟩
end
theorem last_int {c : List Int} (h : 0 < c.length) : (c.map V.int)[(c.map V.int).length - 1]? = some (V.int c[c.length - 1]) := by
  rw [List.length_map, List.getElem?_map, List.getElem?_eq_getElem (by omega)]
  rfl
theorem drop_map (c : List Int) : (c.map V.int).dropLast = c.dropLast.map V.int := by
  rw [List.dropLast_eq_take, List.dropLast_eq_take, List.map_take, List.length_map]

def rLenQ (K : Frg) : List V → Hp → VK → Prop := fun xs H Q => ∃ p ys, xs = [.ref p] ∧ (SqL K H p ys ∨ SqT K H p ys) ∧ Q (.int ys.length) H
def rIntQ : List V → Hp → VK → Prop := fun xs H Q => (∃ i, xs = [.int i] ∧ Q (.int i) H) ∨ ∃ k, xs = [.bl k] ∧ Q (.int (if k then 1 else 0)) H
def rMaxQ : List V → Hp → VK → Prop := fun xs H Q => ∃ i j, xs = [.int i, .int j] ∧ Q (.int (if j > i then j else i)) H
abbrev rLtQ : R2 := rI0 fun i j => .bl (decide (i < j))
abbrev rGtQ : R2 := rI0 fun i j => .bl (decide (j < i))
abbrev rAddQ : R2 := rI0 fun i j => .int (i + j)
abbrev rMulQ : R2 := rI CMul fun i j => .int (i * j)
abbrev rModQ : R2 := rI (fun _ j => 0 < j) fun i j => .int (i % j)
abbrev rDivQ : R2 := rI CDiv fun i j => .int (i / j)
abbrev rDivW : R2 := rI CDivW fun i j => .int (i / j)
abbrev tInt (t : TE) : TE := tCB rIntQ (tCons t tNil)
abbrev tSrc (k : Str) : TE := tDGet (tVar 0) (tC (.str k))
/-- the reading of the first way: names source, most, cells, others, lap, stirred -/
def tPickA (K : Frg) : TS :=
  tSeq (tIfS (tTest (tOp rLtQ (tVar 1) (tC (.int 2)))) (tRet (tC (.int 0))) tNext)
  (tSeq (tAsg (tSrc "cells") (gName 2))
  (tSeq (tWhile (tAnd (tTest (tOp rLtQ (tSrc "left") (tC (.int 2)))) (tTest (tOp rGtQ (tCB (rLenQ K) (tCons (tVar 2) tNil)) (tC (.int 0)))))
      (sDPut (tVar 0) (tC (.str "left")) (tBM0 K "list" rPop (tVar 2))))
  (tSeq (tAsg (tSrc "left") (gName 3))
  (tSeq (tIfS (tTest (tOp rGtQ (tVar 3) (tC (.int 1)))) (tSeq (sDPut (tVar 0) (tC (.str "left")) (tOp rDivW (tVar 3) (tVar 1))) (tRet (tOp rModQ (tInt (tVar 3)) (tVar 1)))) tNext)
  (tSeq (sDPut (tVar 0) (tC (.str "turn")) (tOp rAddQ (tSrc "turn") (tC (.int 1))))
  (tSeq (tAsg (tSrc "turn") (gName 4))
  (tSeq (tAsg (tOp rModQ (tInt (tOp rAddQ (tSrc "mixed") (tOp rMulQ (tVar 4) (tC (.int 104729))))) (tC (.int 998244353))) (gName 5))
  (tSeq (tAsg (tOp rModQ (tInt (tOp rAddQ (tOp rMulQ (tVar 5) (tVar 5)) (tOp rMulQ (tVar 4) (tC (.int 17))))) (tC (.int 2147483647))) (gName 5))
  (tRet (tOp rModQ (tInt (tOp rDivQ (tVar 5) (tC (.int 16)))) (tVar 1)))))))))))
theorem mod_range {i n : Int} (h : 2 ≤ n) : 0 ≤ i % n ∧ i % n < max 1 n := by
  have h1 := Int.emod_nonneg i (show n ≠ 0 by omega)
  have h2 := Int.emod_lt_of_pos i (show 0 < n by omega)
  omega
theorem mulsmall {i : Int} (h0 : 0 ≤ i) (h : i < 998244353) : CMul i i := .inl ⟨by omega, by omega⟩
theorem pickA_rd {K : Frg} {vs : List V} {H : Hp} {Q : VK} (h : spPick vs H Q E0) : tPickA K { nx := fun _ H' => Q .non H', rt := Q } (L2.start ["source", "most", "cells", "others", "lap", "stirred"] vs) H := by
  obtain ⟨ds, cs, n, rfl, ⟨c, l, m, t, k1, k2⟩, ne, hn, q⟩ := h
  have s0 : Sr H ds cs H c l m t := ⟨k1, k2, fun _ _ _ => rfl⟩
  show tPickA K _ [some (.ref ds), some (.int n), none, none, none, none] H
  unfold tPickA
  refine ⟨.int n, rfl, n, 2, rfl, rfl, _, rfl, ite2 (fun e => ?_) fun e => ?_⟩
  · have hn2 : n < 2 := of_decide_eq_true e
    exact q 0 H (Int.le_refl _) (by omega) s0.ok fun b _ _ => rfl
  have hn2 : 2 ≤ n := by
    have := of_decide_eq_false (Bool.eq_false_iff.mpr e)
    omega
  refine ⟨.ref ds, rfl, ds, .ref cs, rfl, s0.gc, ?_⟩
  -- the loop
  refine ⟨fun mm σ H1 => ∃ c l m t, Sr H ds cs H1 c l m t ∧ mm = c.length ∧ σ = [some (.ref ds), some (.int n), some (.ref cs), none, none, none], ⟨c.length, c, l, m, t, s0, rfl, rfl⟩, fun mm σ H1 hW => ?_⟩
  obtain ⟨c, l, m, t, s1, rfl, rfl⟩ := hW
  have out : ∀ {H2 : Hp} {c : List Int} {l m t : Int}, Sr H ds cs H2 c l m t → (tSeq (tAsg (tSrc "left") (gName 3))
      (tSeq (tIfS (tTest (tOp rGtQ (tVar 3) (tC (.int 1)))) (tSeq (sDPut (tVar 0) (tC (.str "left")) (tOp rDivW (tVar 3) (tVar 1))) (tRet (tOp rModQ (tInt (tVar 3)) (tVar 1)))) tNext)
      (tSeq (sDPut (tVar 0) (tC (.str "turn")) (tOp rAddQ (tSrc "turn") (tC (.int 1))))
      (tSeq (tAsg (tSrc "turn") (gName 4))
      (tSeq (tAsg (tOp rModQ (tInt (tOp rAddQ (tSrc "mixed") (tOp rMulQ (tVar 4) (tC (.int 104729))))) (tC (.int 998244353))) (gName 5))
      (tSeq (tAsg (tOp rModQ (tInt (tOp rAddQ (tOp rMulQ (tVar 5) (tVar 5)) (tOp rMulQ (tVar 4) (tC (.int 17))))) (tC (.int 2147483647))) (gName 5))
      (tRet (tOp rModQ (tInt (tOp rDivQ (tVar 5) (tC (.int 16)))) (tVar 1))))))))) { nx := fun _ H' => Q .non H', rt := Q } [some (.ref ds), some (.int n), some (.ref cs), none, none, none] H2 := by
    intro H2 c l m t s
    refine ⟨.ref ds, rfl, ds, .int l, rfl, s.gl, .int l, rfl, l, 1, rfl, rfl, _, rfl, ite2 (fun e => ?_) fun e => ?_⟩
    · refine ⟨.int l, rfl, .int n, rfl, l, n, rfl, rfl, ⟨by omega, hn⟩, .ref ds, rfl, ds, _, rfl, s.pl _, ?_⟩
      have s' := s.set ne (l / n) m t
      exact ⟨.int l, rfl, .inl ⟨l, rfl, .int n, rfl, l, n, rfl, rfl, by omega, q _ _ (mod_range hn2).1 (mod_range hn2).2 s'.ok s'.2.2⟩⟩
    · refine ⟨.ref ds, rfl, ds, .int t, rfl, s.gt, t, 1, rfl, rfl, .ref ds, rfl, ds, _, rfl, s.pt _, ?_⟩
      have s' := s.set ne l m (t + 1)
      refine ⟨.ref ds, rfl, ds, .int (t + 1), rfl, s'.gt, ?_⟩
      refine ⟨.ref ds, rfl, ds, .int m, rfl, s'.gm, .int (t + 1), rfl, t + 1, 104729, rfl, rfl, .inr ⟨by decide, by decide⟩, m, (t + 1) * 104729, rfl, rfl, .inl ⟨_, rfl, _, 998244353, rfl, rfl, (show (0 : Int) < 998244353 by decide), ?_⟩⟩
      have r1 := Int.emod_nonneg (m + (t + 1) * 104729) (show (998244353 : Int) ≠ 0 by decide)
      have r2 := Int.emod_lt_of_pos (m + (t + 1) * 104729) (show (0 : Int) < 998244353 by decide)
      refine ⟨.int ((m + (t + 1) * 104729) % 998244353), rfl, .int ((m + (t + 1) * 104729) % 998244353), rfl, _, _, rfl, rfl, mulsmall r1 r2, .int (t + 1), rfl, t + 1, 17, rfl, rfl, .inr ⟨by decide, by decide⟩, _, _, rfl, rfl, .inl ⟨_, rfl, _, 2147483647, rfl, rfl, (show (0 : Int) < 2147483647 by decide), ?_⟩⟩
      refine ⟨.int (((m + (t + 1) * 104729) % 998244353 * ((m + (t + 1) * 104729) % 998244353) + (t + 1) * 17) % 2147483647), rfl, _, 16, rfl, rfl, ⟨by decide, by decide⟩, .inl ⟨_, rfl, .int n, rfl, _, n, rfl, rfl, by omega, ?_⟩⟩
      exact q _ _ (mod_range hn2).1 (mod_range hn2).2 s'.ok s'.2.2
  refine ⟨.ref ds, rfl, ds, .int l, rfl, s1.gl, l, 2, rfl, rfl, _, rfl, ite2 (fun e => ?_) fun e => ?_⟩
  · refine ⟨.ref cs, rfl, cs, c.map V.int, rfl, .inl (SqL.of s1.2.1), ((c.map V.int).length : Int), 0, rfl, rfl, _, rfl, ite2 (fun e2 => ?_) fun e2 => ?_⟩
    · have hc : 0 < c.length := by
        have h2 : (0 : Int) < ((c.map V.int).length : Int) := of_decide_eq_true e2
        rw [List.length_map] at h2
        omega
      refine ⟨fun σ H2 => ∃ c' l m t, Sr H ds cs H2 c' l m t ∧ c'.length = c.length - 1 ∧ σ = [some (.ref ds), some (.int n), some (.ref cs), none, none, none], fun σ' H' hN => ?_, ?_⟩
      · obtain ⟨c', l, m, t, s, hl, rfl⟩ := hN
        exact ⟨c'.length, by omega, c', l, m, t, s, rfl, rfl⟩
      · refine ⟨.ref cs, rfl, tyV_own (G := ⟨fun _ => none, none⟩) s1.2.1, cs, _, .int c[c.length - 1], rfl, rfl, s1.2.1, last_int hc, .ref ds, rfl, ds, ?_⟩
        rw [drop_map]
        have s2 := s1.pop ne
        exact ⟨_, rfl, s2.pl _, c.dropLast, _, m, t, s2.set ne _ m t, List.length_dropLast, rfl⟩
    · exact out s1
  · exact out s1
/-- the reading of the second way: names source, many, left, mixed -/
def tPickB (K : Frg) : TS :=
  tSeq (tWhile (tAnd (tTest (tOp rGtQ (tVar 1) (tC (.int 1)))) (tAnd (tTest (tOp rLtQ (tSrc "left") (tC (.int 2)))) (tTest (tOp rGtQ (tCB (rLenQ K) (tCons (tSrc "cells") tNil)) (tC (.int 0))))))
      (sDPut (tVar 0) (tC (.str "left")) (tBM0 K "list" rPop (tSrc "cells"))))
  (tSeq (tAsg (tSrc "left") (gName 2))
  (tSeq (tIfS (tOr (tTest (tOp rLtQ (tVar 1) (tC (.int 2)))) (tTest (tOp rGtQ (tVar 2) (tC (.int 1)))))
      (tSeq (sDPut (tVar 0) (tC (.str "left")) (tOp rDivW (tVar 2) (tCB rMaxQ (tCons (tC (.int 1)) (tCons (tVar 1) tNil))))) (tRet (tOp rModQ (tInt (tVar 2)) (tCB rMaxQ (tCons (tC (.int 1)) (tCons (tVar 1) tNil)))))) tNext)
  (tSeq (sDPut (tVar 0) (tC (.str "turn")) (tOp rAddQ (tSrc "turn") (tC (.int 1))))
  (tSeq (tAsg (tOp rModQ (tInt (tOp rAddQ (tSrc "mixed") (tOp rMulQ (tSrc "turn") (tC (.int 104729))))) (tC (.int 998244353))) (gName 3))
  (tSeq (tAsg (tOp rModQ (tInt (tOp rAddQ (tOp rMulQ (tVar 3) (tVar 3)) (tOp rMulQ (tSrc "turn") (tC (.int 17))))) (tC (.int 2147483647))) (gName 3))
  (tSeq (sDPut (tVar 0) (tC (.str "mixed")) (tVar 3))
  (tRet (tOp rModQ (tInt (tOp rDivQ (tVar 3) (tC (.int 16)))) (tVar 1)))))))))
theorem pickB_rd {K : Frg} {vs : List V} {H : Hp} {Q : VK} (h : spPick vs H Q E0) : tPickB K { nx := fun _ H' => Q .non H', rt := Q } (L2.start ["source", "many", "left", "mixed"] vs) H := by
  obtain ⟨ds, cs, n, rfl, ⟨c, l, m, t, k1, k2⟩, ne, hn, q⟩ := h
  have s0 : Sr H ds cs H c l m t := ⟨k1, k2, fun _ _ _ => rfl⟩
  show tPickB K _ [some (.ref ds), some (.int n), none, none] H
  unfold tPickB
  have out : ∀ {H2 : Hp} {c : List Int} {l m t : Int}, Sr H ds cs H2 c l m t → (tSeq (tAsg (tSrc "left") (gName 2))
      (tSeq (tIfS (tOr (tTest (tOp rLtQ (tVar 1) (tC (.int 2)))) (tTest (tOp rGtQ (tVar 2) (tC (.int 1)))))
          (tSeq (sDPut (tVar 0) (tC (.str "left")) (tOp rDivW (tVar 2) (tCB rMaxQ (tCons (tC (.int 1)) (tCons (tVar 1) tNil))))) (tRet (tOp rModQ (tInt (tVar 2)) (tCB rMaxQ (tCons (tC (.int 1)) (tCons (tVar 1) tNil)))))) tNext)
      (tSeq (sDPut (tVar 0) (tC (.str "turn")) (tOp rAddQ (tSrc "turn") (tC (.int 1))))
      (tSeq (tAsg (tOp rModQ (tInt (tOp rAddQ (tSrc "mixed") (tOp rMulQ (tSrc "turn") (tC (.int 104729))))) (tC (.int 998244353))) (gName 3))
      (tSeq (tAsg (tOp rModQ (tInt (tOp rAddQ (tOp rMulQ (tVar 3) (tVar 3)) (tOp rMulQ (tSrc "turn") (tC (.int 17))))) (tC (.int 2147483647))) (gName 3))
      (tSeq (sDPut (tVar 0) (tC (.str "mixed")) (tVar 3))
      (tRet (tOp rModQ (tInt (tOp rDivQ (tVar 3) (tC (.int 16)))) (tVar 1))))))))) { nx := fun _ H' => Q .non H', rt := Q } [some (.ref ds), some (.int n), none, none] H2 := by
    intro H2 c l m t s
    have yes : ∀ {mx : Int}, mx = max 1 n → (tSeq (sDPut (tVar 0) (tC (.str "left")) (tOp rDivW (tVar 2) (tCB rMaxQ (tCons (tC (.int 1)) (tCons (tVar 1) tNil))))) (tRet (tOp rModQ (tInt (tVar 2)) (tCB rMaxQ (tCons (tC (.int 1)) (tCons (tVar 1) tNil))))))
        { nx := fun σ H' => (tSeq (sDPut (tVar 0) (tC (.str "turn")) (tOp rAddQ (tSrc "turn") (tC (.int 1))))
      (tSeq (tAsg (tOp rModQ (tInt (tOp rAddQ (tSrc "mixed") (tOp rMulQ (tSrc "turn") (tC (.int 104729))))) (tC (.int 998244353))) (gName 3))
      (tSeq (tAsg (tOp rModQ (tInt (tOp rAddQ (tOp rMulQ (tVar 3) (tVar 3)) (tOp rMulQ (tSrc "turn") (tC (.int 17))))) (tC (.int 2147483647))) (gName 3))
      (tSeq (sDPut (tVar 0) (tC (.str "mixed")) (tVar 3))
      (tRet (tOp rModQ (tInt (tOp rDivQ (tVar 3) (tC (.int 16)))) (tVar 1))))))) { nx := fun _ H' => Q .non H', rt := Q } σ H', rt := Q } [some (.ref ds), some (.int n), some (.int l), none] H2 := by
      intro mx hmx
      have e1 : (if n > 1 then n else (1 : Int)) = mx := by
        by_cases h : n > 1
        · rw [if_pos h]
          omega
        · rw [if_neg h]
          omega
      have hb : mx.natAbs.log2 < 9000 := by
        by_cases h : n > 1
        · have : mx = n := by omega
          rw [this]
          exact hn
        · have : mx = 1 := by omega
          rw [this]
          decide
      refine ⟨.int l, rfl, .int n, rfl, 1, n, rfl, l, mx, rfl, congrArg V.int e1, ⟨by omega, hb⟩, .ref ds, rfl, ds, _, rfl, s.pl _, ?_⟩
      have s' := s.set ne (l / mx) m t
      have r1 := Int.emod_nonneg l (show mx ≠ 0 by omega)
      have r2 := Int.emod_lt_of_pos l (show 0 < mx by omega)
      exact ⟨.int l, rfl, .inl ⟨l, rfl, .int n, rfl, 1, n, rfl, l, mx, rfl, congrArg V.int e1, by omega, q _ _ r1 (by omega) s'.ok s'.2.2⟩⟩
    refine ⟨.ref ds, rfl, ds, .int l, rfl, s.gl, .int n, rfl, n, 2, rfl, rfl, _, rfl, ite2 (fun e => ?_) fun e => ?_⟩
    · exact yes rfl
    have hn2 : 2 ≤ n := by
      have := of_decide_eq_false (Bool.eq_false_iff.mpr e)
      omega
    refine ⟨.int l, rfl, l, 1, rfl, rfl, _, rfl, ite2 (fun e => ?_) fun e => ?_⟩
    · exact yes rfl
    · refine ⟨.ref ds, rfl, ds, .int t, rfl, s.gt, t, 1, rfl, rfl, .ref ds, rfl, ds, _, rfl, s.pt _, ?_⟩
      have s' := s.set ne l m (t + 1)
      refine ⟨.ref ds, rfl, ds, .int m, rfl, s'.gm, .ref ds, rfl, ds, .int (t + 1), rfl, s'.gt, t + 1, 104729, rfl, rfl, .inr ⟨by decide, by decide⟩, m, (t + 1) * 104729, rfl, rfl, .inl ⟨_, rfl, _, 998244353, rfl, rfl, (show (0 : Int) < 998244353 by decide), ?_⟩⟩
      have r1 := Int.emod_nonneg (m + (t + 1) * 104729) (show (998244353 : Int) ≠ 0 by decide)
      have r2 := Int.emod_lt_of_pos (m + (t + 1) * 104729) (show (0 : Int) < 998244353 by decide)
      refine ⟨.int ((m + (t + 1) * 104729) % 998244353), rfl, .int ((m + (t + 1) * 104729) % 998244353), rfl, _, _, rfl, rfl, mulsmall r1 r2, .ref ds, rfl, ds, .int (t + 1), rfl, s'.gt, t + 1, 17, rfl, rfl, .inr ⟨by decide, by decide⟩, _, _, rfl, rfl, .inl ⟨_, rfl, _, 2147483647, rfl, rfl, (show (0 : Int) < 2147483647 by decide), ?_⟩⟩
      refine ⟨.int (((m + (t + 1) * 104729) % 998244353 * ((m + (t + 1) * 104729) % 998244353) + (t + 1) * 17) % 2147483647), rfl, .ref ds, rfl, ds, _, rfl, s'.pm _, ?_⟩
      have s2 := s'.set ne l (((m + (t + 1) * 104729) % 998244353 * ((m + (t + 1) * 104729) % 998244353) + (t + 1) * 17) % 2147483647) (t + 1)
      exact ⟨.int (((m + (t + 1) * 104729) % 998244353 * ((m + (t + 1) * 104729) % 998244353) + (t + 1) * 17) % 2147483647), rfl, _, 16, rfl, rfl, ⟨by decide, by decide⟩, .inl ⟨_, rfl, .int n, rfl, _, n, rfl, rfl, by omega, q _ _ (mod_range hn2).1 (mod_range hn2).2 s2.ok s2.2.2⟩⟩
  refine ⟨fun mm σ H1 => ∃ c l m t, Sr H ds cs H1 c l m t ∧ mm = c.length ∧ σ = [some (.ref ds), some (.int n), none, none], ⟨c.length, c, l, m, t, s0, rfl, rfl⟩, fun mm σ H1 hW => ?_⟩
  obtain ⟨c, l, m, t, s1, rfl, rfl⟩ := hW
  refine ⟨.int n, rfl, n, 1, rfl, rfl, _, rfl, ite2 (fun e => ?_) fun e => ?_⟩
  · refine ⟨.ref ds, rfl, ds, .int l, rfl, s1.gl, l, 2, rfl, rfl, _, rfl, ite2 (fun e => ?_) fun e => ?_⟩
    · refine ⟨.ref ds, rfl, ds, .ref cs, rfl, s1.gc, cs, c.map V.int, rfl, .inl (SqL.of s1.2.1), ((c.map V.int).length : Int), 0, rfl, rfl, _, rfl, ite2 (fun e2 => ?_) fun e2 => ?_⟩
      · have hc : 0 < c.length := by
          have h2 : (0 : Int) < ((c.map V.int).length : Int) := of_decide_eq_true e2
          rw [List.length_map] at h2
          omega
        refine ⟨fun σ H2 => ∃ c' l m t, Sr H ds cs H2 c' l m t ∧ c'.length = c.length - 1 ∧ σ = [some (.ref ds), some (.int n), none, none], fun σ' H' hN => ?_, ?_⟩
        · obtain ⟨c', l, m, t, s, hl, rfl⟩ := hN
          exact ⟨c'.length, by omega, c', l, m, t, s, rfl, rfl⟩
        · refine ⟨.ref ds, rfl, ds, .ref cs, rfl, s1.gc, tyV_own (G := ⟨fun _ => none, none⟩) s1.2.1, cs, _, .int c[c.length - 1], rfl, rfl, s1.2.1, last_int hc, .ref ds, rfl, ds, ?_⟩
          rw [drop_map]
          have s2 := s1.pop ne
          exact ⟨_, rfl, s2.pl _, c.dropLast, _, m, t, s2.set ne _ m t, List.length_dropLast, rfl⟩
      · exact out s1
    · exact out s1
  · exact out s1
end DL

set_option Elab.async false
set_option linter.all false
set_option maxRecDepth 100000
namespace DL
open PySem PySem.Spec PyProof.Rows L2

/-! ### the source's making -/
def rAbsQ : List V → Hp → VK → Prop := fun xs H Q => ∃ i, xs = [.int i] ∧ Q (.int (if i < 0 then -i else i)) H
def absI (i : Int) : Int := if i < 0 then -i else i
def tMix (K : Frg) : TS := tFor (iList K (tVar 0)) (gName 2) (tAsg (tOp rModQ (tInt (tOp rAddQ (tOp rAddQ (tOp rMulQ (tVar 1) (tC (.int 69069))) (tOp rMulQ (tVar 2) (tC (.int 31)))) (tC (.int 5)))) (tC (.int 2147483629))) (gName 1))
def tAbsL (K : Frg) : TE := tLc (iList K (tVar 0)) (gName 2) tYes (tCB rAbsQ (tCons (tVar 2) tNil)) [2]
def tSrcD (tc : TE) (i : Nat) : TE := tDisp [(tC (.str "cells"), tc), (tC (.str "left"), tC (.int 1)), (tC (.str "mixed"), tVar i), (tC (.str "turn"), tC (.int 0))]
def tOpenA (K : Frg) : TS := tSeq (tAsg (tC (.int 11)) (gName 1)) (tSeq (tMix K) (tSeq (tAsg (tAbsL K) (gName 3)) (tRet (tSrcD (tRevL K (tVar 3)) 1))))
def tOpenB (K : Frg) : TS := tSeq (tAsg (tC (.int 11)) (gName 1)) (tSeq (tMix K) (tRet (tSrcD (tRevL K (tAbsL K)) 1)))
theorem same_new {H : Hp} {p : Addr} {o : HO} (n : H p = none) : Same H (upd H p o) := fun b u h => by
  rw [upd_ne (ne_of_none h n)]
  exact h
theorem mix_rd {K : Frg} {a : Addr} {ns : List Int} {H : Hp} (hS : SqL K H a (ns.map V.int)) {more : List (Option V)} {x : Int} {y : Option V} {E : Ends}
    (h : ∀ (x : Int) (y : Option V), E.nx (some (.ref a) :: some (.int x) :: y :: more) H) : tMix K E (some (.ref a) :: some (.int x) :: y :: more) H := by
  refine ⟨.ref a, rfl, a, rfl, ⟨_, hS⟩, for_list (xs := ns.map V.int) (fun _ σ H' => H' = H ∧ ∃ (x : Int) (y : Option V), σ = some (.ref a) :: some (.int x) :: y :: more) ⟨rfl, x, y, rfl⟩ (fun i σ H' _ hp => ?_) (fun i v σ H' hv hp => ?_) fun σ H' hp => ?_⟩
  · obtain ⟨e, _⟩ := hp
    rw [e]
    exact hS
  · obtain ⟨e, x, y, e2⟩ := hp
    subst e
    subst e2
    rw [List.getElem?_map] at hv
    cases hn : ns[i]? with
    | none =>
      rw [hn] at hv
      cases hv
    | some n =>
      rw [hn] at hv
      cases hv
      exact ⟨.int x, rfl, x, 69069, rfl, rfl, .inr ⟨by decide, by decide⟩, .int n, rfl, n, 31, rfl, rfl, .inr ⟨by decide, by decide⟩, _, _, rfl, rfl, _, 5, rfl, rfl, .inl ⟨_, rfl, _, 2147483629, rfl, rfl, (show (0 : Int) < 2147483629 by decide), rfl, _, _, rfl⟩⟩
  · obtain ⟨e, x, y, e2⟩ := hp
    subst e
    subst e2
    exact h x y
theorem abs_rd {K : Frg} {a : Addr} {ns : List Int} {H : Hp} (hS : SqL K H a (ns.map V.int)) (hl : ns.length ≤ 63) {more : List (Option V)} {o : Option V} {y : Option V} {Q : VK}
    (h : ∀ D, H D = none → Q (.ref D) (upd H D (.lst ((ns.map absI).map V.int)))) : tAbsL K (some (.ref a) :: o :: y :: more) H Q := by
  refine ⟨.ref a, rfl, a, rfl, ⟨_, hS⟩, fun D hD => lc_list (xs := ns.map V.int) (fun i H' => H' = upd H D (.lst (((ns.take i).map absI).map V.int))) rfl (fun i H' _ e => ?_) (fun i v H' hv e => ?_) fun H' e => ?_⟩
  · rw [e]
    exact (same_new hD).seq hS
  · subst e
    rw [List.getElem?_map] at hv
    cases hn : ns[i]? with
    | none =>
      rw [hn] at hv
      cases hv
    | some n =>
      rw [hn] at hv
      cases hv
      refine ⟨rfl, .int n, rfl, n, rfl, _, upd_same, ?_, ?_⟩
      · rw [List.length_map, List.length_map, List.length_take]
        have : (sizeLine : Nat) = 16777216 := rfl
        omega
      · rw [upd_upd, List.take_add_one, hn]
        simp only [Option.toList, List.map_append, List.map_cons, List.map_nil]
        rfl
  · rw [e, List.length_map, List.take_length]
    exact h D hD
theorem disp_rd {K : Frg} {σ : L2.St} {H : Hp} {tc : TE} {i : Nat} {x : Int} {cs : List Int} {Q : VK} (hx : σ[i]? = some (some (.int x)))
    (hc : ∀ H1, Same H H1 → ∀ k : VK, (∀ p H2, H1 p = none → Same H1 H2 → H2 p = some (.lst (cs.map V.int)) → k (.ref p) H2) → tc σ H1 k)
    (h : ∀ H' ds c, Same H H' → H ds = none → H c = none → ds ≠ c → SrcOk H' ds c → Q (.ref ds) H') : tSrcD tc i σ H Q := by
  intro p hp
  refine hc _ (same_new hp) _ fun q H2 hq s2 h2 => ?_
  have h2p : H2 p = some (.dK []) := s2 _ _ upd_same
  have npq : p ≠ q := fun e => by
    rw [← e, upd_same] at hq
    cases hq
  refine ⟨.int x, hx, h2p, [(Sum.inr "cells", .ref q), (Sum.inr "left", .int 1), (Sum.inr "mixed", .int x), (Sum.inr "turn", .int 0)], rfl, by show 4 ≤ 15; decide, ?_⟩
  refine h _ p q (fun b o hb => ?_) hp ?_ npq ⟨cs, 1, x, 0, upd_same, by rw [upd_ne npq.symm]; exact h2⟩
  · rw [upd_ne (ne_of_none hb hp)]
    exact s2 _ _ (same_new hp _ _ hb)
  · rw [upd_ne npq.symm] at hq
    exact hq
theorem openA_rd {K : Frg} {vs : List V} {H : Hp} {Q : VK} (h : spOpen K vs H Q E0) : tOpenA K { nx := fun _ H' => Q .non H', rt := Q } (L2.start ["script", "stirred", "cell", "cells"] vs) H := by
  obtain ⟨a, ns, rfl, hS, hl, q⟩ := h
  show tOpenA K _ [some (.ref a), none, none, none] H
  refine mix_rd (more := [none]) hS fun x y => ?_
  dsimp only [tSeq, tAsg]
  refine abs_rd (more := [none]) hS hl fun D hD => ?_
  have sm : Same H (upd H D (.lst ((ns.map absI).map V.int))) := same_new hD
  refine disp_rd (K := K) (x := x) (cs := (ns.map absI).reverse) rfl (fun H1 s1 k hk => ?_) fun H' ds c s e1 e2 e3 ok => q H' ds c (sm.trans s) (sm.free e1) (sm.free e2) e3 ok
  refine ⟨.ref D, rfl, D, _, rfl, SqL.of (s1 _ _ upd_same), fun p hp => hk p _ hp (same_new hp) ?_⟩
  rw [upd_same, List.map_reverse]
theorem openB_rd {K : Frg} {vs : List V} {H : Hp} {Q : VK} (h : spOpen K vs H Q E0) : tOpenB K { nx := fun _ H' => Q .non H', rt := Q } (L2.start ["script", "mixed", "cell"] vs) H := by
  obtain ⟨a, ns, rfl, hS, hl, q⟩ := h
  show tOpenB K _ [some (.ref a), none, none] H
  refine mix_rd (more := []) hS fun x y => ?_
  refine disp_rd (K := K) (x := x) (cs := (ns.map absI).reverse) rfl (fun H1 s1 k hk => ?_) fun H' ds c s e1 e2 e3 ok => q H' ds c s e1 e2 e3 ok
  refine abs_rd (more := []) (s1.seq hS) hl fun D hD => ⟨D, _, rfl, SqL.of upd_same, fun p hp => hk p _ ?_ ((same_new hD).trans (same_new hp)) ?_⟩
  · exact (same_new hD).free hp
  · rw [upd_same, List.map_reverse]
end DL

set_option Elab.async false
set_option linter.all false
set_option maxRecDepth 100000
namespace DL
open PySem PySem.Spec PyProof.Rows L2

/-! ### the rules, their side conditions filled -/
section
variable {ι : Type} {X : ι → Cx} {K : Frg} {e a b c : Expr} {es : List Expr} {m ma mb mc : M D} {mr : M (List D)} {pos p p2 : Pos} {x : Str}
theorem pbv (i : Nat) (hN : ∀ j, (X j).N[i]? = some x := by intro _; rfl) (hv : ∀ j, Vis (X j).env.scope x := by intro _; first | exact Or.inl rfl | exact Or.inr (Or.inl rfl) | exact Or.inr (Or.inr rfl)) (hd : (x == ("__debug__" : Str)) = false := by decide)
    (hcd : (x == ("__classdict__" : Str)) = false := by decide) : PB X (.Name x pos) (gV i) := pb_var hN hv hd hcd
theorem pdv (i : Nat) (hN : ∀ j, (X j).N[i]? = some x := by intro _; rfl) (hv : ∀ j, Vis (X j).env.scope x := by intro _; first | exact Or.inl rfl | exact Or.inr (Or.inl rfl) | exact Or.inr (Or.inr rfl)) (hd : (x == ("__debug__" : Str)) = false := by decide)
    (hcd : (x == ("__classdict__" : Str)) = false := by decide) : PD X (.Name x pos) (gD i) := pd_var hN hv hd hcd
/-- a built-in type as a value -/
theorem pd_ty {n : String} (hm : ∀ i, (X i).mg x = none) (hv : bootBuiltins x = some (.type n) := by decide +kernel) (hg : ∀ i, Gl (X i) x := by intro _; rfl) (hn : x ≠ "__name__" := by decide) (hd : (x == ("__debug__" : Str)) = false := by decide) : PD X (.Name x pos) (mC (.ty n)) :=
  ⟨tC (.ty n), fun i => pe_bltn (hg i) (hm i) hv rfl hn hd, sem_c fun _ => rfl⟩
theorem pgn {vs : List Nat} (j : Nat) (hN : ∀ i, (X i).N.Nodup) (hi : ∀ i, (X i).N[j]? = some x := by intro _; rfl) (hx : ∀ i, Loc (X i).env.scope x := by intro _; first | exact Or.inl rfl | exact Or.inr rfl)
    (hf : ∀ i, (X i).fn x = true ∨ (X i).env.scope.names.lookup x = some .local := by intro _; first | exact Or.inl rfl | exact Or.inr rfl) (hv : j ∈ vs := by decide) : PGd X vs (.Name x pos) (gN j) := pgd_name hN hi hx hf hv
theorem pad_star (ha : PB X e m) (hr : PAd X es mr) (hK : ∀ i, (X i).K = K) (hs : ∀ i, starEach (.Starred e p :: es) (X i).env = (true, eval e (X i).env) :: starEach es (X i).env := by intro _; rfl) : PAd X (.Starred e p :: es) (aS m mr) := by
  obtain ⟨t, h1, h2⟩ := ha.ex
  obtain ⟨u, h3, h4⟩ := hr.ex
  refine ⟨StX.tStar K t u, fun i => ?_, fun B G en σ H Q k rl q c => h2 B G en σ H _ _ rl q fun v H1 G1 d s1 g1 r1 q1 => ?_⟩
  · have := StX.pa_star (p := p) (h1 i) (h3 i)
    rw [hK i] at this
    exact this
  · cases d <;> try exact False.elim q1
    · obtain ⟨a, vs, e, k1, k2⟩ := r1
      subst e
      have q1' : mr en _ := q1
      refine ⟨a, vs, rfl, .inl (SqT.of (g1.f _ _ k1)), h4 B G1 en σ H1 _ _ (rl.step s1 g1) q1' fun ws H2 G2 ds s2 g2 r2 q2 => ?_⟩
      exact c _ H2 G2 _ (s1.trans s2) g2 ((k2.mono s2.le).append r2) q2
    · obtain ⟨a, vs, e, k1, _, k2⟩ := r1
      subst e
      have q1' : mr en _ := q1
      refine ⟨a, vs, rfl, .inr (SqL.of k1), h4 B G1 en σ H1 _ _ (rl.step s1 g1) q1' fun ws H2 G2 ds s2 g2 r2 q2 => ?_⟩
      exact c _ H2 G2 _ (s1.trans s2) g2 ((k2.mono s2.le).append r2) q2
/-- list(range(..)), tuple(range(..)) -/
def SemR (t : L2.St → Hp → (Int → Int → Hp → Prop) → Prop) (m : En → (Int → Int → Prop) → Prop) : Prop := ∀ (B : Bs) (G : Gh) (en : En) (σ : L2.St) (H : Hp) (Q : Int → Int → Prop) (k : Int → Int → Hp → Prop), Rel B G en σ H → m en Q →
  (∀ a b H' G', Step G H G' H' → GRel G' H' → Q a b → k a b H') → t σ H k
structure PRd (X : ι → Cx) (e : Expr) (m : En → (Int → Int → Prop) → Prop) : Prop where
  ex : ∃ t, (∀ i, PRg (X i) e t) ∧ SemR t m
def rg1 (m : M D) : En → (Int → Int → Prop) → Prop := fun en Q => m en fun d => match d with
  | .int n => Q 0 n
  | _ => False
def rg2 (ma mb : M D) : En → (Int → Int → Prop) → Prop := fun en Q => ma en fun d => mb en fun d2 => match d, d2 with
  | .int i, .int j => Q i j
  | _, _ => False
theorem prd_1 (hm : ∀ i, (X i).mg "range" = none) (ha : PB X a ma) (hg : ∀ i, Gl (X i) "range" := by intro _; rfl) (na : ∀ i, starEach [a] (X i).env = (false, eval a (X i).env) :: starEach [] (X i).env := by intro _; rfl) : PRd X (.Call (.Name "range" p) [a] [] pos) (rg1 ma) := by
  obtain ⟨t, h1, h2⟩ := ha.ex
  refine ⟨_, fun i => prg_1 (hg i) (hm i) (h1 i) (na i), fun B G en σ H Q k rl q c => h2 B G en σ H _ _ rl q fun v H1 G1 d s1 g1 r1 q1 => ?_⟩
  cases d <;> try exact False.elim q1
  cases r1
  exact ⟨_, rfl, c _ _ H1 G1 s1 g1 q1⟩
theorem prd_2 (hm : ∀ i, (X i).mg "range" = none) (ha : PB X a ma) (hb : PB X b mb) (hg : ∀ i, Gl (X i) "range" := by intro _; rfl) (na : ∀ i, starEach [a, b] (X i).env = (false, eval a (X i).env) :: starEach [b] (X i).env := by intro _; rfl)
    (nb : ∀ i, starEach [b] (X i).env = (false, eval b (X i).env) :: starEach [] (X i).env := by intro _; rfl) (hp : ∀ i, (backTo pos (starEach [b] (X i).env)).any (·.1) = false := by intro _; rfl) : PRd X (.Call (.Name "range" p) [a, b] [] pos) (rg2 ma mb) := by
  obtain ⟨t, h1, h2⟩ := ha.ex
  obtain ⟨u, h3, h4⟩ := hb.ex
  refine ⟨_, fun i => prg_2 (hg i) (hm i) (h1 i) (h3 i) (na i) (nb i) (hp i), fun B G en σ H Q k rl q c => h2 B G en σ H _ _ rl q fun v H1 G1 d s1 g1 r1 q1 => h4 B G1 en σ H1 _ _ (rl.step s1 g1) q1 fun w H2 G2 d2 s2 g2 r2 q2 => ?_⟩
  cases d <;> cases d2 <;> try exact False.elim q2
  cases r1
  cases r2
  exact ⟨_, _, rfl, rfl, c _ _ H2 G2 (s1.trans s2) g2 q2⟩
def rgD (i j : Int) : List D := rng i (j - i).toNat
theorem rgV_rep {G : Gh} (i j : Int) : RepL G (rgD i j) (rgV i j) := by
  have e1 : rgD i j = ((List.range (j - i).toNat).map fun (k : Nat) => i + (k : Int)).map D.int := by
    unfold rgD rng
    rw [List.map_map]
    rfl
  have e2 : rgV i j = ((List.range (j - i).toNat).map fun (k : Nat) => i + (k : Int)).map V.int := by
    unfold rgV
    rw [List.map_map]
    rfl
  rw [e1, e2]
  exact RepL.ints _
def mLRg (m : En → (Int → Int → Prop) → Prop) : M (List D) := fun en Q => m en fun i j => RgOk i j ∧ Q (rgD i j)
def mTRg (m : En → (Int → Int → Prop) → Prop) : M D := fun en Q => m en fun i j => RgOk i j ∧ Q (.tup (rgD i j))
variable {mg : En → (Int → Int → Prop) → Prop}
theorem pf_lrg (hc : ∀ i, (X i).calm = true) (hm : ∀ i, (X i).mg "list" = none) (he : PRd X e mg) (hg : ∀ i, Gl (X i) "list" := by intro _; rfl) (na : ∀ i, starEach [e] (X i).env = (false, eval e (X i).env) :: starEach [] (X i).env := by intro _; rfl) : PF X (.Call (.Name "list" p) [e] [] pos) (mLRg mg) := by
  obtain ⟨t, h1, h2⟩ := he.ex
  refine ⟨_, fun i => pe_listRg (hc i) (hg i) (hm i) (h1 i) (na i), fun B G en σ H Q k rl q c => h2 B G en σ H _ _ rl q fun i j H1 G1 s1 g1 q1 => ⟨q1.1, fun p n => ?_⟩⟩
  exact c p _ _ G1 _ (s1.trans (Step.new n)) (g1.new n) (there_none s1 n) upd_same (g1.fnone n) (g1.snone n) (rgV_rep i j) q1.2
theorem pd_trg (hc : ∀ i, (X i).calm = true) (hm : ∀ i, (X i).mg "tuple" = none) (he : PRd X e mg) (hg : ∀ i, Gl (X i) "tuple" := by intro _; rfl) (na : ∀ i, starEach [e] (X i).env = (false, eval e (X i).env) :: starEach [] (X i).env := by intro _; rfl) : PD X (.Call (.Name "tuple" p) [e] [] pos) (mTRg mg) := by
  obtain ⟨t, h1, h2⟩ := he.ex
  refine ⟨_, fun i => pe_tupRg (hc i) (hg i) (hm i) (h1 i) (na i), fun B G en σ H Q k rl q c => h2 B G en σ H _ _ rl q fun i j H1 G1 s1 g1 q1 => ⟨q1.1, fun p n => ?_⟩⟩
  obtain ⟨s, g', r⟩ := new_tup g1 n (rgV_rep (G := G1) i j)
  exact c _ _ _ _ (s1.trans s) g' r q1.2
/-- a call of a def of the text -/
theorem pcall {P : Program} {w : World} {mgl : Str → Option Value} {base : Heap} {k : Nat} {f : List D → (D → Prop) → Prop} (F : FnD P w K mgl base k x f) (hr : ∀ i, Room k (X i).A) (hG : ∀ i, (X i).A.guards = some []) (ha : PAd X (e :: es) mr)
    (h1 : ∀ i, (X i).prog = P := by intro _; rfl) (h2 : ∀ i, (X i).w = w := by intro _; rfl) (h3 : ∀ i, (X i).K = K := by intro _; rfl) (h4 : ∀ i, (X i).mg = mgl := by intro _; rfl) (h5 : ∀ i, (X i).base = base := by intro _; rfl) (hg : ∀ i, Gl (X i) x := by intro _; rfl)
    (hdb : (x == ("__debug__" : Str)) = false := by decide) (he : ∀ i, starEach (e :: es) (X i).env = (false, eval e (X i).env) :: starEach es (X i).env := by intro _; rfl) (hpl : ∀ i, (backTo pos (starEach es (X i).env)).any (·.1) = false := by intro _; rfl) :
    PD X (.Call (.Name x p) (e :: es) [] pos) (mCall f mr) := pd_call F h1 h2 h3 h4 h5 hr hG hg ha hdb he hpl
/-- a comprehension -/
theorem plc {elt tg iter : Expr} {ifs : List Expr} {scope : Scope} (own : List (Str × Nat)) {mi : M (List D)} {mg : D → En → (En → Prop) → Prop} {mt : M Bool} {me : M D} (hN : ∀ i, (X i).N.Nodup) (ok : ∀ i, BlkOk (X i).N (X i).env.scope scope own) (hi : PIB X tg iter mi)
    (hg : PGd (blkX X scope) (own.map (·.2)) tg mg) (ht : PTsd (blkX X scope) ifs mt) (he : PD (blkX X scope) elt me) (hc : ∀ i, (X i).calm = true := by intro _; rfl) (hs : ∀ i x, foldedSetIterable iter (X i).env x = pure x := by intro _ _; rfl) :
    PF X (.ListComp elt [⟨tg, iter, ifs, 0⟩] scope pos) (mLc (own.map (·.2)) mi mg mt me) := pf_lc hc hN hi ok hg ht he hs
/-- a tuple of targets -/
theorem pgt {vs : List Nat} {k : Nat} {ms : List D → En → (En → Prop) → Prop} (n : Nat) (h : PGsd X vs es ms) (hK : ∀ i, (X i).K = K := by intro _; rfl) (hc : ∀ i, (X i).calm = true := by intro _; rfl) (hn : ∀ i, (assignEach es (X i).env).length = n := by intro _; rfl) (hst : ∀ i, (assignEach es (X i).env).findIdx? (·.1) = none := by intro _; rfl) :
    PGd X vs (.Tuple es k pos) (gT n ms) := pgd_tup hK hc h hn hst
theorem pgc {vs : List Nat} {m : D → En → (En → Prop) → Prop} {ms : List D → En → (En → Prop) → Prop} (h1 : PGd X vs e m) (h2 : PGsd X vs es ms) (hs : ∀ i, (assignEach (e :: es) (X i).env).map (·.2) = assign e (X i).env :: (assignEach es (X i).env).map (·.2) := by intro _; rfl) : PGsd X vs (e :: es) (gC m ms) := pgsd_cons h1 h2 hs
end
section
variable {X : Cx} {e : Expr} {pos pos' : Pos} {x : Str} {md : M D} {mf mr : M (List D)}
theorem sset (i : Nat) (hN : X.N.Nodup) (he : PD (un X) e md) (hi : X.N[i]? = some x := by rfl) (hx : Loc X.env.scope x := by first | exact Or.inl rfl | exact Or.inr rfl) (hs : swapsWith e (some (.Name x pos')) pos.line X.env = pure false := by rfl)
    (hf : X.fn x = true ∨ X.env.scope.names.lookup x = some .local := by first | exact Or.inl rfl | exact Or.inr rfl) : SD X (.Assign [.Name x pos'] e pos) (sAsg md (gN i)) := sd_set hN hi hx he hs hf
theorem sown (i : Nat) (hN : X.N.Nodup) (he : PF (un X) e mf) (hi : X.N[i]? = some x := by rfl) (hx : Loc X.env.scope x := by first | exact Or.inl rfl | exact Or.inr rfl) (hs : swapsWith e (some (.Name x pos')) pos.line X.env = pure false := by rfl)
    (hf : X.fn x = true ∨ X.env.scope.names.lookup x = some .local := by first | exact Or.inl rfl | exact Or.inr rfl) : SD X (.Assign [.Name x pos'] e pos) (sOwn mf i) := sd_own hN hi hx he hs hf
theorem slc_own {elt tg iter : Expr} {ifs : List Expr} {scope : Scope} (i : Nat) (own : List (Str × Nat)) {mi : M (List D)} {mg : D → En → (En → Prop) → Prop} {mt : M Bool} {me : M D} (hN : X.N.Nodup) (ok : BlkOk X.N X.env.scope scope own)
    (hsw : swapsWith (.ListComp elt [⟨tg, iter, ifs, 0⟩] scope pos) (some (.Name x pos')) pos.line X.env = pure true) {spos : Pos} (hi : PIB (un X) tg iter mi)
    (hg : PGd (blkX (un X) scope) (own.map (·.2)) tg mg) (ht : PTsd (blkX (un X) scope) ifs mt) (he : PD (blkX (un X) scope) elt me) (hy : X.N[i]? = some x := by rfl) (hyl : X.env.scope.names.lookup x = some .local := by rfl)
    (hc : X.calm = true := by rfl) (hs : ∀ x, foldedSetIterable iter X.env x = pure x := by intro _; rfl) (hl : spos.line = pos.line := by rfl) : SD X (.Assign [.Name x pos'] (.ListComp elt [⟨tg, iter, ifs, 0⟩] scope pos) spos) (sOwn (mLc (own.map (·.2)) mi mg mt me) i) :=
  sd_lcG hc hN hy hyl (by rw [hl]; exact hsw) hi ok hg ht he hs fun te h => sem_own h
theorem slc_d {elt tg iter : Expr} {ifs : List Expr} {scope : Scope} (i : Nat) (own : List (Str × Nat)) {mi : M (List D)} {mg : D → En → (En → Prop) → Prop} {mt : M Bool} {me : M D} (hN : X.N.Nodup) (ok : BlkOk X.N X.env.scope scope own)
    (hsw : swapsWith (.ListComp elt [⟨tg, iter, ifs, 0⟩] scope pos) (some (.Name x pos')) pos.line X.env = pure true) {spos : Pos} (hi : PIB (un X) tg iter mi)
    (hg : PGd (blkX (un X) scope) (own.map (·.2)) tg mg) (ht : PTsd (blkX (un X) scope) ifs mt) (he : PD (blkX (un X) scope) elt me) (hy : X.N[i]? = some x := by rfl) (hyl : X.env.scope.names.lookup x = some .local := by rfl)
    (hc : X.calm = true := by rfl) (hs : ∀ x, foldedSetIterable iter X.env x = pure x := by intro _; rfl) (hl : spos.line = pos.line := by rfl) : SD X (.Assign [.Name x pos'] (.ListComp elt [⟨tg, iter, ifs, 0⟩] scope pos) spos) (sAsg (mL (mLc (own.map (·.2)) mi mg mt me)) (gN i)) :=
  sd_lcG hc hN hy hyl (by rw [hl]; exact hsw) hi ok hg ht he hs fun te h => fin_d h
theorem sasg {vs : List Nat} {tg : Expr} {mg : D → En → (En → Prop) → Prop} (he : PD (un X) e md) (hg : PGd (un X) vs tg mg) (hs : swapsWithSole [tg] e pos.line X.env = pure false := by rfl) (hw : swappedStores [tg] e X.env = pure none := by rfl)
    (h1 : (assignEach [tg] X.env).map (·.2) = [assign tg X.env] := by rfl) : SD X (.Assign [tg] e pos) (sAsg md mg) := sd_asg he hg hs hw h1
theorem spar (i j : Nat) {x y : Str} {a b : Expr} {px py pt : Pos} {kt k2 : Nat} {pt2 : Pos} (hN : X.N.Nodup) (ha : PAd (un X) [a, b] mr) (hij : i ≠ j := by decide) (hc : X.calm = true := by rfl) (hi : X.N[i]? = some x := by rfl) (hj : X.N[j]? = some y := by rfl) (hx : X.env.scope.names.lookup x = some .local := by rfl)
    (hy : X.env.scope.names.lookup y = some .local := by rfl) (hw : swappedStores [.Tuple [.Name x px, .Name y py] kt pt] (.Tuple [a, b] k2 pt2) X.env = pure (some [x, y]) := by rfl) (hs : swapsWithSole [.Tuple [.Name x px, .Name y py] kt pt] (.Tuple [a, b] k2 pt2) pos.line X.env = pure false := by rfl) :
    SD X (.Assign [.Tuple [.Name x px, .Name y py] kt pt] (.Tuple [a, b] k2 pt2) pos) (sPar i j mr) := sd_par hc hN hi hj hij hx hy ha hw hs
theorem spar3 (i j l : Nat) {x y z : Str} {a b c : Expr} {px py pz pt : Pos} {kt k2 : Nat} {pt2 : Pos} (hN : X.N.Nodup) (ha : PAd (un X) [a, b, c] mr) (hij : i ≠ j := by decide) (hil : i ≠ l := by decide) (hjl : j ≠ l := by decide) (hc : X.calm = true := by rfl) (hi : X.N[i]? = some x := by rfl) (hj : X.N[j]? = some y := by rfl) (hl : X.N[l]? = some z := by rfl)
    (hx : X.env.scope.names.lookup x = some .local := by rfl) (hy : X.env.scope.names.lookup y = some .local := by rfl) (hz : X.env.scope.names.lookup z = some .local := by rfl)
    (hw : swappedStores [.Tuple [.Name x px, .Name y py, .Name z pz] kt pt] (.Tuple [a, b, c] k2 pt2) X.env = pure (some [x, y, z]) := by rfl) (hs : swapsWithSole [.Tuple [.Name x px, .Name y py, .Name z pz] kt pt] (.Tuple [a, b, c] k2 pt2) pos.line X.env = pure false := by rfl) :
    SD X (.Assign [.Tuple [.Name x px, .Name y py, .Name z pz] kt pt] (.Tuple [a, b, c] k2 pt2) pos) (sPar3 i j l mr) := sd_par3 hc hN hi hj hl hij hil hjl hx hy hz ha hw hs
theorem sdrop (h : PD (un X) e md) (hs : swapsWith e none pos.line X.env = pure false := by rfl) : SD X (.Expr e pos) (sDrop md) := sd_drop h hs
variable {p1 : Pos}
theorem sapp (i : Nat) {apos cpos : Pos} (he : PD (un X) e md) (hN : X.N[i]? = some x := by rfl) (hv : Vis X.env.scope x := by first | exact Or.inl rfl | exact Or.inr (Or.inl rfl)) (hbase : attributeBase (.Name x p1) "append" X.env (eval (.Name x p1) X.env) = eval (.Name x p1) X.env := by rfl)
    (hfew : ((backTo cpos (starEach [e] X.env)).all (fun x => !x.1) && (backToKw cpos (keywordEach [] X.env)).all (fun x => x.1.isSome) && decide ([e].length + ([] : List Keyword).length + (if ([] : List Keyword).isEmpty then 0 else 1) < 30)) = true := by rfl)
    (hline : (apos.endLine == cpos.line) = true := by rfl) (hs1 : starEach [e] X.env = (false, eval e X.env) :: starEach [] X.env := by rfl) (hs : swapsWith (.Call (.Attribute (.Name x p1) "append" apos) [e] [] cpos) none pos.line X.env = pure false := by rfl)
    (hd : (x == ("__debug__" : Str)) = false := by decide) (hcd : (x == ("__classdict__" : Str)) = false := by decide) : SD X (.Expr (.Call (.Attribute (.Name x p1) "append" apos) [e] [] cpos) pos) (sApp i md) := sd_app hN hv he hbase hfew hline hs1 hs hd hcd
theorem sext (i : Nat) {apos cpos : Pos} (he : PB (un X) e md) (hN : X.N[i]? = some x := by rfl) (hv : Vis X.env.scope x := by first | exact Or.inl rfl | exact Or.inr (Or.inl rfl)) (hbase : attributeBase (.Name x p1) "extend" X.env (eval (.Name x p1) X.env) = eval (.Name x p1) X.env := by rfl)
    (hfew : ((backTo cpos (starEach [e] X.env)).all (fun x => !x.1) && (backToKw cpos (keywordEach [] X.env)).all (fun x => x.1.isSome) && decide ([e].length + ([] : List Keyword).length + (if ([] : List Keyword).isEmpty then 0 else 1) < 30)) = true := by rfl)
    (hline : (apos.endLine == cpos.line) = true := by rfl) (hs1 : starEach [e] X.env = (false, eval e X.env) :: starEach [] X.env := by rfl) (hs : swapsWith (.Call (.Attribute (.Name x p1) "extend" apos) [e] [] cpos) none pos.line X.env = pure false := by rfl)
    (hd : (x == ("__debug__" : Str)) = false := by decide) (hcd : (x == ("__classdict__" : Str)) = false := by decide) : SD X (.Expr (.Call (.Attribute (.Name x p1) "extend" apos) [e] [] cpos) pos) (sExt i md) := sd_ext hN hv he hbase hfew hline hs1 hs hd hcd
theorem spop (i j : Nat) {y : Str} {py : Pos} {apos cpos : Pos} (hNd : X.N.Nodup) (hN : X.N[i]? = some x := by rfl) (hv : Vis X.env.scope x := by first | exact Or.inl rfl | exact Or.inr (Or.inl rfl)) (hbase : attributeBase (.Name x p1) "pop" X.env (eval (.Name x p1) X.env) = eval (.Name x p1) X.env := by rfl)
    (hline : (apos.endLine == cpos.line) = true := by rfl) (hi : X.N[j]? = some y := by rfl) (hx : Loc X.env.scope y := by first | exact Or.inl rfl | exact Or.inr rfl) (hs : swapsWith (.Call (.Attribute (.Name x p1) "pop" apos) [] [] cpos) (some (.Name y py)) pos.line X.env = pure false := by rfl)
    (hf : X.fn y = true ∨ X.env.scope.names.lookup y = some .local := by first | exact Or.inl rfl | exact Or.inr rfl) (hd : (x == ("__debug__" : Str)) = false := by decide) (hcd : (x == ("__classdict__" : Str)) = false := by decide) :
    SD X (.Assign [.Name y py] (.Call (.Attribute (.Name x p1) "pop" apos) [] [] cpos) pos) (sPop i j) := sd_pop hN hv hbase hline hNd hi hx hs hf hd hcd
theorem sstx (i : Nat) {a b : Expr} {ma mi : M D} {tpos : Pos} (ha : PD (un X) a ma) (hb : PB (un X) b mi) (hN : X.N[i]? = some x := by rfl) (hv : Vis X.env.scope x := by first | exact Or.inl rfl | exact Or.inr (Or.inl rfl))
    (hx : ∀ v, assign (.Subscript (.Name x p1) b tpos) X.env v = (do let ov ← holding [v] (eval (.Name x p1) X.env); let iv ← holding [v, ov] (eval b X.env); standAt tpos; holding [v, ov, iv] (setItem ov iv v); release [v, ov, iv] []) := by intro _; rfl)
    (hs : swapsWithSole [.Subscript (.Name x p1) b tpos] a pos.line X.env = pure false := by rfl) (hw : swappedStores [.Subscript (.Name x p1) b tpos] a X.env = pure none := by rfl) (h1 : (assignEach [.Subscript (.Name x p1) b tpos] X.env).map (·.2) = [assign (.Subscript (.Name x p1) b tpos) X.env] := by rfl)
    (hd : (x == ("__debug__" : Str)) = false := by decide) (hcd : (x == ("__classdict__" : Str)) = false := by decide) : SD X (.Assign [.Subscript (.Name x p1) b tpos] a pos) (sStx i ma mi) := sd_stx hN hv ha hb hx hs hw h1 hd hcd
theorem sfor {vs : List Nat} {tg iter : Expr} {body : List Stmt} {mi : M (List D)} {mg : D → En → (En → Prop) → Prop} {mb : MS} (hi : PId (un X) tg iter mi) (hg : PGd (un X) vs tg mg) (hb : SDs X body mb) (hp : PassesOwn (model X.prog X.w) X.A X.env X.xe := by exact PassesOwn.never)
    (hc : X.calm = true := by rfl) (hs : ∀ x, foldedSetIterable iter X.env x = pure x := by intro _; rfl) : SD X (.For tg iter body [] pos) (sFor mi mg mb) := sd_for hp hc hi hg hb hs
theorem swhile {c : Expr} {body : List Stmt} {mt : M Bool} {mb : MS} (hc : PTd (un X) c mt) (hb : SDs X body mb) (hp : PassesOwn (model X.prog X.w) X.A X.env X.xe := by exact PassesOwn.never) : SD X (.While c body [] pos) (sWh mt mb) := sd_while hp hc hb
end
theorem FnG.up {P : Program} {w : World} {K : Frg} {mg : Str → Option Value} {base : Heap} {j k : Nat} {f : Addr} {fd : FuncData} {ps : List Str} {sp : Sp} (h : FnG P w K mg base j f fd ps sp) (l : j ≤ k) : FnG P w K mg base k f fd ps sp :=
  ⟨h.len, fun A outer s H args us vs Q E hr hg e b r q => h.run A outer s H args us vs Q E (hr.mono l) hg e b r q⟩
end DL

set_option Elab.async false
set_option linter.all false
set_option maxRecDepth 100000
namespace DL
open PySem PySem.Spec PyProof.Rows L2
/-! own lists stored side by side with data -/
def RepX (H0 : Hp) (G : Gh) (H : Hp) : Slot → V → Prop
  | .u, _ => False
  | .d x, v => Rep G x v
  | .own xs, v => ∃ a vs, v = .ref a ∧ H0 a = none ∧ H a = some (.lst vs) ∧ G.F a = none ∧ ¬ G.isS a ∧ RepL G xs vs
def SemX (t : TE) (m : M Slot) : Prop := ∀ (B : Bs) (G : Gh) (en : En) (σ : L2.St) (H : Hp) (Q : Slot → Prop) (k : VK), Rel B G en σ H → m en Q →
  (∀ v H' G' x, Step G H G' H' → GRel G' H' → RepX H G' H' x v → Q x → k v H') → t σ H k
theorem RepX.step {H0 : Hp} {G G' : Gh} {H H' : Hp} (s : Step G H G' H') : ∀ {x : Slot} {v : V}, RepX H0 G H x v → RepX H0 G' H' x v
  | .u, _, h => h
  | .d _, _, h => h.mono s.le
  | .own _, _, ⟨a, vs, e, h0, h1, h2, h3, h4⟩ => ⟨a, vs, e, h0, s.keep _ _ h1 h3, s.nof _ _ h1 h2, s.nos _ _ h1 h3, h4.mono s.le⟩
theorem Rel.setX {B : Bs} {G G0 : Gh} {en : En} {σ : L2.St} {H H0 : Hp} (r : Rel B G en σ H) (r0 : Rel B G0 en σ H0) (j : Nat) : ∀ {x : Slot} {v : V}, RepX H0 G H x v → Rel B G (en.set j x) (σ.set j (some v)) H
  | .u, _, h => h.elim
  | .d _, _, h => r.set j h
  | .own _, _, ⟨a, vs, e, h0, h1, h2, h3, h4⟩ => by
    subst e
    exact r.setOwn r0 j h0 h1 h2 h3 h4
section
variable {X : Cx} {pos : Pos} {e : Expr}
structure PX {ι : Type} (X : ι → Cx) (e : Expr) (m : M Slot) : Prop where
  ex : ∃ t, (∀ i, PE (X i) e t) ∧ SemX t m
def xD (m : M D) : M Slot := fun en Q => m en fun x => Q (.d x)
def xF (m : M (List D)) : M Slot := fun en Q => m en fun x => Q (.own x)
theorem PD.x {ι : Type} {X : ι → Cx} {m : M D} (h : PD X e m) : PX X e (xD m) := by
  obtain ⟨t, a, b⟩ := h.ex
  exact ⟨t, a, fun B G en σ H Q k r q c => b B G en σ H _ k r q fun v H' G' d s g rp q => c v H' G' (.d d) s g rp q⟩
theorem PF.x {ι : Type} {X : ι → Cx} {m : M (List D)} (h : PF X e m) : PX X e (xF m) := by
  obtain ⟨t, a, b⟩ := h.ex
  exact ⟨t, a, fun B G en σ H Q k r q c => b B G en σ H _ k r q fun l vs H' G' xs s g n ha nf ns rp q => c (.ref l) H' G' (.own xs) s g ⟨l, vs, rfl, n, ha, nf, ns, rp⟩ q⟩
/-- a, b = x, y -/
def sPx (i j : Nat) (mx my : M Slot) : MS := fun F en => mx en fun x => my en fun y => F.nx ((en.set i x).set j y)
theorem spx (i j : Nat) {x y : Str} {a b : Expr} {mx my : M Slot} {px py pt : Pos} {kt k2 : Nat} {pt2 : Pos} (hN : X.N.Nodup) (ha : PX (un X) a mx) (hb : PX (un X) b my) (hij : i ≠ j := by decide) (hc : X.calm = true := by rfl) (hi : X.N[i]? = some x := by rfl) (hj : X.N[j]? = some y := by rfl) (hx : X.env.scope.names.lookup x = some .local := by rfl)
    (hy : X.env.scope.names.lookup y = some .local := by rfl) (hw : swappedStores [.Tuple [.Name x px, .Name y py] kt pt] (.Tuple [a, b] k2 pt2) X.env = pure (some [x, y]) := by rfl) (hs : swapsWithSole [.Tuple [.Name x px, .Name y py] kt pt] (.Tuple [a, b] k2 pt2) pos.line X.env = pure false := by rfl)
    (s1 : starEach [a, b] X.env = (false, eval a X.env) :: starEach [b] X.env := by rfl) (s2 : starEach [b] X.env = (false, eval b X.env) :: starEach [] X.env := by rfl) :
    SD X (.Assign [.Tuple [.Name x px, .Name y py] kt pt] (.Tuple [a, b] k2 pt2) pos) (sPx i j mx my) := by
  obtain ⟨ta, a1, a2⟩ := ha.ex
  obtain ⟨tb, b1, b2⟩ := hb.ex
  refine ⟨_, ps_par hc hN hi hj hij hx hy (pa_cons (a1 ()) (pa_cons (b1 ()) pa_nil s2) s1) hw hs, fun B G en σ H F E r q k => a2 B G en σ H _ _ r q fun v H1 G1 x sx gx rx q1 => ?_⟩
  refine b2 B G1 en σ H1 _ _ (r.step sx gx) q1 fun w H2 G2 y sy gy ry q2 => ?_
  have r1 := (r.step sx gx).setX r i rx
  have r2 := (r1.step sy gy).setX r1 j ry
  exact ⟨v, w, rfl, k.nx G2 _ _ H2 r2 (sx.trans sy).le q2⟩
def sPx3 (i j l : Nat) (mx my mz : M Slot) : MS := fun F en => mx en fun x => my en fun y => mz en fun z => F.nx (((en.set i x).set j y).set l z)
theorem spx3 (i j l : Nat) {x y z : Str} {a b c : Expr} {mx my mz : M Slot} {px py pz pt : Pos} {kt k2 : Nat} {pt2 : Pos} (hN : X.N.Nodup) (ha : PX (un X) a mx) (hb : PX (un X) b my) (hcc : PX (un X) c mz) (hij : i ≠ j := by decide) (hil : i ≠ l := by decide) (hjl : j ≠ l := by decide) (hc : X.calm = true := by rfl) (hi : X.N[i]? = some x := by rfl) (hj : X.N[j]? = some y := by rfl) (hl : X.N[l]? = some z := by rfl)
    (hx : X.env.scope.names.lookup x = some .local := by rfl) (hy : X.env.scope.names.lookup y = some .local := by rfl) (hz : X.env.scope.names.lookup z = some .local := by rfl)
    (hw : swappedStores [.Tuple [.Name x px, .Name y py, .Name z pz] kt pt] (.Tuple [a, b, c] k2 pt2) X.env = pure (some [x, y, z]) := by rfl) (hs : swapsWithSole [.Tuple [.Name x px, .Name y py, .Name z pz] kt pt] (.Tuple [a, b, c] k2 pt2) pos.line X.env = pure false := by rfl)
    (s1 : starEach [a, b, c] X.env = (false, eval a X.env) :: starEach [b, c] X.env := by rfl) (s2 : starEach [b, c] X.env = (false, eval b X.env) :: starEach [c] X.env := by rfl) (s3 : starEach [c] X.env = (false, eval c X.env) :: starEach [] X.env := by rfl) :
    SD X (.Assign [.Tuple [.Name x px, .Name y py, .Name z pz] kt pt] (.Tuple [a, b, c] k2 pt2) pos) (sPx3 i j l mx my mz) := by
  obtain ⟨ta, a1, a2⟩ := ha.ex
  obtain ⟨tb, b1, b2⟩ := hb.ex
  obtain ⟨tc, c1, c2⟩ := hcc.ex
  refine ⟨_, ps_par3 hc hN hi hj hl hij hil hjl hx hy hz (pa_cons (a1 ()) (pa_cons (b1 ()) (pa_cons (c1 ()) pa_nil s3) s2) s1) hw hs, fun B G en σ H F E r q k => a2 B G en σ H _ _ r q fun u H1 G1 x sx gx rx q1 => ?_⟩
  refine b2 B G1 en σ H1 _ _ (r.step sx gx) q1 fun v H2 G2 y sy gy ry q2 => ?_
  refine c2 B G2 en σ H2 _ _ ((r.step sx gx).step sy gy) q2 fun w H3 G3 z sz gz rz q3 => ?_
  have r1 := (r.step sx gx).setX r i rx
  have r2 := (r1.step sy gy).setX r1 j ry
  have r3 := (r2.step sz gz).setX r2 l rz
  exact ⟨u, v, w, rfl, k.nx G3 _ _ H3 r3 ((sx.trans sy).trans sz).le q3⟩
theorem spxc2 (i j : Nat) {x y : Str} {a b : Expr} {mx my : M Slot} {px py pt : Pos} {kt k2 : Nat} {pt2 : Pos} (hN : X.N.Nodup) (ha : PX (un X) a mx) (hb : PX (un X) b my) (hcm : X.calm = true := by rfl) (hi0 : X.N[i]? = some x := by rfl) (hx0 : Loc X.env.scope x := by first | exact Or.inl rfl | exact Or.inr rfl) (hf0 : X.fn x = true ∨ X.env.scope.names.lookup x = some .local := by first | exact Or.inl rfl | exact Or.inr rfl) (hi1 : X.N[j]? = some y := by rfl) (hx1 : Loc X.env.scope y := by first | exact Or.inl rfl | exact Or.inr rfl) (hf1 : X.fn y = true ∨ X.env.scope.names.lookup y = some .local := by first | exact Or.inl rfl | exact Or.inr rfl)
    (hs : swapsWithSole [.Tuple [.Name x px, .Name y py] kt pt] (.Tuple [a, b] k2 pt2) pos.line X.env = pure false := by rfl) (hw : swappedStores [.Tuple [.Name x px, .Name y py] kt pt] (.Tuple [a, b] k2 pt2) X.env = pure none := by rfl) (h1 : (assignEach [.Tuple [.Name x px, .Name y py] kt pt] X.env).map (·.2) = [assign (.Tuple [.Name x px, .Name y py] kt pt) X.env] := by rfl) (s0 : starEach [a, b] X.env = (false, eval a X.env) :: starEach [b] X.env := by rfl) (s1 : starEach [b] X.env = (false, eval b X.env) :: starEach [] X.env := by rfl) (t0 : (assignEach [.Name x px, .Name y py] X.env).map (·.2) = assign (.Name x px) X.env :: (assignEach [.Name y py] X.env).map (·.2) := by rfl) (t1 : (assignEach [.Name y py] X.env).map (·.2) = assign (.Name y py) X.env :: (assignEach [] X.env).map (·.2) := by rfl) (hn : (assignEach [.Name x px, .Name y py] X.env).length = 2 := by rfl) (hst : (assignEach [.Name x px, .Name y py] X.env).findIdx? (·.1) = none := by rfl) :
    SD X (.Assign [.Tuple [.Name x px, .Name y py] kt pt] (.Tuple [a, b] k2 pt2) pos) (sPx i j mx my) := by
  obtain ⟨ta, a1, a2⟩ := ha.ex
  obtain ⟨tb, b1, b2⟩ := hb.ex
  refine ⟨_, ps_asg (pe_tup (pa_cons (a1 ()) (pa_cons (b1 ()) pa_nil s1) s0)) (pg_tup hcm (pgs_cons (pg_name hN hi0 hx0 hf0) (pgs_cons (pg_name hN hi1 hx1 hf1) pgs_nil t1) t0) hn hst) hs hw h1, fun B G en σ H F E r q k => ?_⟩
  refine a2 B G en σ H _ _ r q fun v0 H0 G0 x0 s0' g0 r0 q0 => ?_
  refine b2 B G0 en σ H0 _ _ (r.step s0' g0) q0 fun v1 H1 G1 x1 s1' g1 r1 q1 => ?_
  have w0 := (r.step s0' g0).setX r i r0
  have w1 := (w0.step s1' g1).setX w0 j r1
  refine ⟨(show (2 : Nat) ≤ sizeLine by decide), fun p np => ?_⟩
  have w := w1.step (Step.new (o := .tup [v0, v1]) np) (g1.new np)
  exact ⟨p, [v0, v1], rfl, SqT.of upd_same, rfl, v0, [v1], rfl, v1, [], rfl, rfl, k.nx G1 _ _ _ w (s0'.trans s1').le q1⟩
theorem spxc3 (i j l : Nat) {x y z : Str} {a b c : Expr} {mx my mz : M Slot} {px py pz pt : Pos} {kt k2 : Nat} {pt2 : Pos} (hN : X.N.Nodup) (ha : PX (un X) a mx) (hb : PX (un X) b my) (hc : PX (un X) c mz) (hcm : X.calm = true := by rfl) (hi0 : X.N[i]? = some x := by rfl) (hx0 : Loc X.env.scope x := by first | exact Or.inl rfl | exact Or.inr rfl) (hf0 : X.fn x = true ∨ X.env.scope.names.lookup x = some .local := by first | exact Or.inl rfl | exact Or.inr rfl) (hi1 : X.N[j]? = some y := by rfl) (hx1 : Loc X.env.scope y := by first | exact Or.inl rfl | exact Or.inr rfl) (hf1 : X.fn y = true ∨ X.env.scope.names.lookup y = some .local := by first | exact Or.inl rfl | exact Or.inr rfl) (hi2 : X.N[l]? = some z := by rfl) (hx2 : Loc X.env.scope z := by first | exact Or.inl rfl | exact Or.inr rfl) (hf2 : X.fn z = true ∨ X.env.scope.names.lookup z = some .local := by first | exact Or.inl rfl | exact Or.inr rfl)
    (hs : swapsWithSole [.Tuple [.Name x px, .Name y py, .Name z pz] kt pt] (.Tuple [a, b, c] k2 pt2) pos.line X.env = pure false := by rfl) (hw : swappedStores [.Tuple [.Name x px, .Name y py, .Name z pz] kt pt] (.Tuple [a, b, c] k2 pt2) X.env = pure none := by rfl) (h1 : (assignEach [.Tuple [.Name x px, .Name y py, .Name z pz] kt pt] X.env).map (·.2) = [assign (.Tuple [.Name x px, .Name y py, .Name z pz] kt pt) X.env] := by rfl) (s0 : starEach [a, b, c] X.env = (false, eval a X.env) :: starEach [b, c] X.env := by rfl) (s1 : starEach [b, c] X.env = (false, eval b X.env) :: starEach [c] X.env := by rfl) (s2 : starEach [c] X.env = (false, eval c X.env) :: starEach [] X.env := by rfl) (t0 : (assignEach [.Name x px, .Name y py, .Name z pz] X.env).map (·.2) = assign (.Name x px) X.env :: (assignEach [.Name y py, .Name z pz] X.env).map (·.2) := by rfl) (t1 : (assignEach [.Name y py, .Name z pz] X.env).map (·.2) = assign (.Name y py) X.env :: (assignEach [.Name z pz] X.env).map (·.2) := by rfl) (t2 : (assignEach [.Name z pz] X.env).map (·.2) = assign (.Name z pz) X.env :: (assignEach [] X.env).map (·.2) := by rfl) (hn : (assignEach [.Name x px, .Name y py, .Name z pz] X.env).length = 3 := by rfl) (hst : (assignEach [.Name x px, .Name y py, .Name z pz] X.env).findIdx? (·.1) = none := by rfl) :
    SD X (.Assign [.Tuple [.Name x px, .Name y py, .Name z pz] kt pt] (.Tuple [a, b, c] k2 pt2) pos) (sPx3 i j l mx my mz) := by
  obtain ⟨ta, a1, a2⟩ := ha.ex
  obtain ⟨tb, b1, b2⟩ := hb.ex
  obtain ⟨tc, c1, c2⟩ := hc.ex
  refine ⟨_, ps_asg (pe_tup (pa_cons (a1 ()) (pa_cons (b1 ()) (pa_cons (c1 ()) pa_nil s2) s1) s0)) (pg_tup hcm (pgs_cons (pg_name hN hi0 hx0 hf0) (pgs_cons (pg_name hN hi1 hx1 hf1) (pgs_cons (pg_name hN hi2 hx2 hf2) pgs_nil t2) t1) t0) hn hst) hs hw h1, fun B G en σ H F E r q k => ?_⟩
  refine a2 B G en σ H _ _ r q fun v0 H0 G0 x0 s0' g0 r0 q0 => ?_
  refine b2 B G0 en σ H0 _ _ (r.step s0' g0) q0 fun v1 H1 G1 x1 s1' g1 r1 q1 => ?_
  refine c2 B G1 en σ H1 _ _ ((r.step s0' g0).step s1' g1) q1 fun v2 H2 G2 x2 s2' g2 r2 q2 => ?_
  have w0 := (r.step s0' g0).setX r i r0
  have w1 := (w0.step s1' g1).setX w0 j r1
  have w2 := (w1.step s2' g2).setX w1 l r2
  refine ⟨(show (3 : Nat) ≤ sizeLine by decide), fun p np => ?_⟩
  have w := w2.step (Step.new (o := .tup [v0, v1, v2]) np) (g2.new np)
  exact ⟨p, [v0, v1, v2], rfl, SqT.of upd_same, rfl, v0, [v1, v2], rfl, v1, [v2], rfl, v2, [], rfl, rfl, k.nx G2 _ _ _ w ((s0'.trans s1').trans s2').le q2⟩
def sPx4 (i j l o : Nat) (mx my mz mw : M Slot) : MS := fun F en => mx en fun x => my en fun y => mz en fun z => mw en fun w => F.nx ((((en.set i x).set j y).set l z).set o w)
theorem spxc4 (i j l o : Nat) {x y z w : Str} {a b c d : Expr} {mx my mz mw : M Slot} {px py pz pw pt : Pos} {kt k2 : Nat} {pt2 : Pos} (hN : X.N.Nodup) (ha : PX (un X) a mx) (hb : PX (un X) b my) (hc : PX (un X) c mz) (hd : PX (un X) d mw) (hcm : X.calm = true := by rfl) (hi0 : X.N[i]? = some x := by rfl) (hx0 : Loc X.env.scope x := by first | exact Or.inl rfl | exact Or.inr rfl) (hf0 : X.fn x = true ∨ X.env.scope.names.lookup x = some .local := by first | exact Or.inl rfl | exact Or.inr rfl) (hi1 : X.N[j]? = some y := by rfl) (hx1 : Loc X.env.scope y := by first | exact Or.inl rfl | exact Or.inr rfl) (hf1 : X.fn y = true ∨ X.env.scope.names.lookup y = some .local := by first | exact Or.inl rfl | exact Or.inr rfl) (hi2 : X.N[l]? = some z := by rfl) (hx2 : Loc X.env.scope z := by first | exact Or.inl rfl | exact Or.inr rfl) (hf2 : X.fn z = true ∨ X.env.scope.names.lookup z = some .local := by first | exact Or.inl rfl | exact Or.inr rfl) (hi3 : X.N[o]? = some w := by rfl) (hx3 : Loc X.env.scope w := by first | exact Or.inl rfl | exact Or.inr rfl) (hf3 : X.fn w = true ∨ X.env.scope.names.lookup w = some .local := by first | exact Or.inl rfl | exact Or.inr rfl)
    (hs : swapsWithSole [.Tuple [.Name x px, .Name y py, .Name z pz, .Name w pw] kt pt] (.Tuple [a, b, c, d] k2 pt2) pos.line X.env = pure false := by rfl) (hw : swappedStores [.Tuple [.Name x px, .Name y py, .Name z pz, .Name w pw] kt pt] (.Tuple [a, b, c, d] k2 pt2) X.env = pure none := by rfl) (h1 : (assignEach [.Tuple [.Name x px, .Name y py, .Name z pz, .Name w pw] kt pt] X.env).map (·.2) = [assign (.Tuple [.Name x px, .Name y py, .Name z pz, .Name w pw] kt pt) X.env] := by rfl) (s0 : starEach [a, b, c, d] X.env = (false, eval a X.env) :: starEach [b, c, d] X.env := by rfl) (s1 : starEach [b, c, d] X.env = (false, eval b X.env) :: starEach [c, d] X.env := by rfl) (s2 : starEach [c, d] X.env = (false, eval c X.env) :: starEach [d] X.env := by rfl) (s3 : starEach [d] X.env = (false, eval d X.env) :: starEach [] X.env := by rfl) (t0 : (assignEach [.Name x px, .Name y py, .Name z pz, .Name w pw] X.env).map (·.2) = assign (.Name x px) X.env :: (assignEach [.Name y py, .Name z pz, .Name w pw] X.env).map (·.2) := by rfl) (t1 : (assignEach [.Name y py, .Name z pz, .Name w pw] X.env).map (·.2) = assign (.Name y py) X.env :: (assignEach [.Name z pz, .Name w pw] X.env).map (·.2) := by rfl) (t2 : (assignEach [.Name z pz, .Name w pw] X.env).map (·.2) = assign (.Name z pz) X.env :: (assignEach [.Name w pw] X.env).map (·.2) := by rfl) (t3 : (assignEach [.Name w pw] X.env).map (·.2) = assign (.Name w pw) X.env :: (assignEach [] X.env).map (·.2) := by rfl) (hn : (assignEach [.Name x px, .Name y py, .Name z pz, .Name w pw] X.env).length = 4 := by rfl) (hst : (assignEach [.Name x px, .Name y py, .Name z pz, .Name w pw] X.env).findIdx? (·.1) = none := by rfl) :
    SD X (.Assign [.Tuple [.Name x px, .Name y py, .Name z pz, .Name w pw] kt pt] (.Tuple [a, b, c, d] k2 pt2) pos) (sPx4 i j l o mx my mz mw) := by
  obtain ⟨ta, a1, a2⟩ := ha.ex
  obtain ⟨tb, b1, b2⟩ := hb.ex
  obtain ⟨tc, c1, c2⟩ := hc.ex
  obtain ⟨td, d1, d2⟩ := hd.ex
  refine ⟨_, ps_asg (pe_tup (pa_cons (a1 ()) (pa_cons (b1 ()) (pa_cons (c1 ()) (pa_cons (d1 ()) pa_nil s3) s2) s1) s0)) (pg_tup hcm (pgs_cons (pg_name hN hi0 hx0 hf0) (pgs_cons (pg_name hN hi1 hx1 hf1) (pgs_cons (pg_name hN hi2 hx2 hf2) (pgs_cons (pg_name hN hi3 hx3 hf3) pgs_nil t3) t2) t1) t0) hn hst) hs hw h1, fun B G en σ H F E r q k => ?_⟩
  refine a2 B G en σ H _ _ r q fun v0 H0 G0 x0 s0' g0 r0 q0 => ?_
  refine b2 B G0 en σ H0 _ _ (r.step s0' g0) q0 fun v1 H1 G1 x1 s1' g1 r1 q1 => ?_
  refine c2 B G1 en σ H1 _ _ ((r.step s0' g0).step s1' g1) q1 fun v2 H2 G2 x2 s2' g2 r2 q2 => ?_
  refine d2 B G2 en σ H2 _ _ (((r.step s0' g0).step s1' g1).step s2' g2) q2 fun v3 H3 G3 x3 s3' g3 r3 q3 => ?_
  have w0 := (r.step s0' g0).setX r i r0
  have w1 := (w0.step s1' g1).setX w0 j r1
  have w2 := (w1.step s2' g2).setX w1 l r2
  have w3 := (w2.step s3' g3).setX w2 o r3
  refine ⟨(show (4 : Nat) ≤ sizeLine by decide), fun p np => ?_⟩
  have w := w3.step (Step.new (o := .tup [v0, v1, v2, v3]) np) (g3.new np)
  exact ⟨p, [v0, v1, v2, v3], rfl, SqT.of upd_same, rfl, v0, [v1, v2, v3], rfl, v1, [v2, v3], rfl, v2, [v3], rfl, v3, [], rfl, rfl, k.nx G3 _ _ _ w (((s0'.trans s1').trans s2').trans s3').le q3⟩
end
end DL

set_option Elab.async false
set_option linter.all false
set_option maxRecDepth 100000
namespace DL
open PySem PySem.Spec PyProof.Rows L2
/-! max, min of a list, a tuple of alike data -/
def rPick (op : PyData → List PyData → PyData) (K : Frg) : List V → Hp → VK → Prop := fun vs H Q => ∃ (a : Addr) (xs : List V) (d : PyData) (ds : List PyData), vs = [.ref a] ∧ (SqL K H a xs ∨ SqT K H a xs) ∧ DpAll K H xs (d :: ds) ∧ PySem.W.AlikeAll (d :: ds) ∧ PyData.depthAll (d :: ds) ≤ 60 ∧
  ∀ (i : Nat) (v : V), xs[i]? = some v → (d :: ds)[i]? = some (op d ds) → Q v H
theorem vals_at : ∀ {xs : List V} {us : List Value} {i : Nat} {u : Value}, Vals xs us → us[i]? = some u → ∃ x, xs[i]? = some x ∧ RelV x u := fun {xs us i u} r h => by
  cases hx : xs[i]? with
  | none =>
    rw [Vals.none_of r hx] at h
    cases h
  | some x =>
    obtain ⟨u', h1, h2⟩ := Vals.get r hx
    rw [h] at h1
    cases h1
    exact ⟨x, rfl, h2⟩
section
variable {X : Cx} {K : Frg}
theorem call_maxD (hc : X.calm = true) {k : Nat} (hr : Room k X.A) : CallR X (.builtin "max") (rPick PySem.W.maxD X.K) := by
  intro pins s σ H vs us Q I r h
  obtain ⟨a, xs, d, ds, rfl, hs, hd, ha, hz, q⟩ := h
  rw [Vals.ref1 r]
  have hu := hr.units
  rcases hs with hs | hs
  · obtain ⟨its, rv, hl, _⟩ := I.list hs
    obtain ⟨as, hrd⟩ := Dp.readsAll I _ _ _ hd rv
    refine PySem.W.max_list_data (I.ok.hd hc) hl.isList hrd ha (by omega) fun i v h' tk bs hv rd hk => ?_
    have hv' : its[i]? = some v := by
      rw [← hv, List.getElem?_toArray]
    obtain ⟨x, hx, rx⟩ := vals_at rv hv'
    obtain ⟨bs', rd', hi, _, _⟩ := PySem.W.readsAll_atA hrd i v hv
    have e := (Reads.unique (PySem.W.reads_keeps hk rd') _ _ rd).1
    refine ⟨x, H, I.kept hk, rx, q i x hx ?_⟩
    rw [List.getElem?_eq_getElem hi, ← e, List.getD_eq_getElem?_getD, List.getElem?_eq_getElem hi]
    rfl
  · obtain ⟨its, rv, hl, _⟩ := I.tuple hs
    obtain ⟨as, hrd⟩ := Dp.readsAll I _ _ _ hd rv
    refine PySem.W.max_tuple_data (I.ok.hd hc) hl hrd ha (by omega) fun i v h' tk bs hv rd hk => ?_
    have hv' : its[i]? = some v := by
      rw [← hv, List.getElem?_toArray]
    obtain ⟨x, hx, rx⟩ := vals_at rv hv'
    obtain ⟨bs', rd', hi, _, _⟩ := PySem.W.readsAll_atA hrd i v hv
    have e := (Reads.unique (PySem.W.reads_keeps hk rd') _ _ rd).1
    refine ⟨x, H, I.kept hk, rx, q i x hx ?_⟩
    rw [List.getElem?_eq_getElem hi, ← e, List.getD_eq_getElem?_getD, List.getElem?_eq_getElem hi]
    rfl
theorem call_minD (hc : X.calm = true) {k : Nat} (hr : Room k X.A) : CallR X (.builtin "min") (rPick PySem.W.minD X.K) := by
  intro pins s σ H vs us Q I r h
  obtain ⟨a, xs, d, ds, rfl, hs, hd, ha, hz, q⟩ := h
  rw [Vals.ref1 r]
  have hu := hr.units
  rcases hs with hs | hs
  · obtain ⟨its, rv, hl, _⟩ := I.list hs
    obtain ⟨as, hrd⟩ := Dp.readsAll I _ _ _ hd rv
    refine PySem.W.min_list_data (I.ok.hd hc) hl.isList hrd ha (by omega) fun i v h' tk bs hv rd hk => ?_
    have hv' : its[i]? = some v := by
      rw [← hv, List.getElem?_toArray]
    obtain ⟨x, hx, rx⟩ := vals_at rv hv'
    obtain ⟨bs', rd', hi, _, _⟩ := PySem.W.readsAll_atA hrd i v hv
    have e := (Reads.unique (PySem.W.reads_keeps hk rd') _ _ rd).1
    refine ⟨x, H, I.kept hk, rx, q i x hx ?_⟩
    rw [List.getElem?_eq_getElem hi, ← e, List.getD_eq_getElem?_getD, List.getElem?_eq_getElem hi]
    rfl
  · obtain ⟨its, rv, hl, _⟩ := I.tuple hs
    obtain ⟨as, hrd⟩ := Dp.readsAll I _ _ _ hd rv
    refine PySem.W.min_tuple_data (I.ok.hd hc) hl hrd ha (by omega) fun i v h' tk bs hv rd hk => ?_
    have hv' : its[i]? = some v := by
      rw [← hv, List.getElem?_toArray]
    obtain ⟨x, hx, rx⟩ := vals_at rv hv'
    obtain ⟨bs', rd', hi, _, _⟩ := PySem.W.readsAll_atA hrd i v hv
    have e := (Reads.unique (PySem.W.reads_keeps hk rd') _ _ rd).1
    refine ⟨x, H, I.kept hk, rx, q i x hx ?_⟩
    rw [List.getElem?_eq_getElem hi, ← e, List.getD_eq_getElem?_getD, List.getElem?_eq_getElem hi]
    rfl
/-- as data -/
def mPick (op : PyData → List PyData → PyData) : List D → (D → Prop) → Prop
  | [.lst (x :: r)], Q => okL 59 (x :: r) = true ∧ PySem.W.AlikeAll (toPyL (x :: r)) ∧ ∀ (i : Nat) (d : D), (x :: r)[i]? = some d → (toPyL (x :: r))[i]? = some (op (toPy x) (toPyL r)) → Q d
  | [.tup (x :: r)], Q => okL 59 (x :: r) = true ∧ PySem.W.AlikeAll (toPyL (x :: r)) ∧ ∀ (i : Nat) (d : D), (x :: r)[i]? = some d → (toPyL (x :: r))[i]? = some (op (toPy x) (toPyL r)) → Q d
  | _, _ => False
theorem toPyL_len : ∀ ds : List D, (toPyL ds).length = ds.length
  | [] => rfl
  | d :: ds => by
    show (toPy d :: toPyL ds).length = _
    rw [List.length_cons, List.length_cons, toPyL_len ds]
theorem repl_at {G : Gh} : ∀ {ds : List D} {vs : List V} {i : Nat} {v : V}, RepL G ds vs → vs[i]? = some v → ∃ d, ds[i]? = some d ∧ Rep G d v := fun {ds vs i v} r h => by
  cases hd : ds[i]? with
  | none =>
    have := List.getElem?_eq_none_iff.mp hd
    rw [r.length] at this
    rw [List.getElem?_eq_none this] at h
    cases h
  | some d =>
    obtain ⟨v', h1, h2⟩ := r.get hd
    rw [h] at h1
    cases h1
    exact ⟨d, rfl, h2⟩
theorem cs_pick {op : PyData → List PyData → PyData} : CallS (rPick op K) (mPick op) := by
  intro G H vs ds Q k g r q c
  match ds, r, q with
  | [.lst (x :: xs)], ⟨v, _, e, ⟨a, ws, e1, h1, h2, h3⟩, e'⟩, ⟨o, al, q⟩ =>
    subst e
    cases e'
    subst e1
    obtain ⟨l1, l2⟩ := okL_lay 59 _ o
    refine ⟨a, ws, toPy x, toPyL xs, rfl, .inl (SqL.of h1), RepL.dp g o h3, al, Nat.le_trans l2 (by decide), fun i v hv hi => ?_⟩
    obtain ⟨d, hd, rd⟩ := repl_at h3 hv
    exact c v H G d (Step.refl _ _) g rd (q i d hd hi)
  | [.tup (x :: xs)], ⟨v, _, e, ⟨a, ws, e1, h1, h3⟩, e'⟩, ⟨o, al, q⟩ =>
    subst e
    cases e'
    subst e1
    obtain ⟨l1, l2⟩ := okL_lay 59 _ o
    refine ⟨a, ws, toPy x, toPyL xs, rfl, .inr (SqT.of (g.f _ _ h1)), RepL.dp g o h3, al, Nat.le_trans l2 (by decide), fun i v hv hi => ?_⟩
    obtain ⟨d, hd, rd⟩ := repl_at h3 hv
    exact c v H G d (Step.refl _ _) g rd (q i d hd hi)
/-- the ints' rule, or the data's -/
def mMaxB : List D → (D → Prop) → Prop := fun ds Q => mMax ds Q ∨ mPick PySem.W.maxD ds Q
def mMinB : List D → (D → Prop) → Prop := fun ds Q => mMin ds Q ∨ mPick PySem.W.minD ds Q
def rMaxB (K : Frg) : List V → Hp → VK → Prop := fun vs H Q => rMax K vs H Q ∨ rPick PySem.W.maxD K vs H Q
def rMinB (K : Frg) : List V → Hp → VK → Prop := fun vs H Q => rMin K vs H Q ∨ rPick PySem.W.minD K vs H Q
theorem cs_maxB : CallS (rMaxB K) mMaxB := fun G H vs ds Q k g r q c => q.elim (fun q => .inl (cs_max G H vs ds Q k g r q c)) fun q => .inr (cs_pick G H vs ds Q k g r q c)
theorem cs_minB : CallS (rMinB K) mMinB := fun G H vs ds Q k g r q c => q.elim (fun q => .inl (cs_min G H vs ds Q k g r q c)) fun q => .inr (cs_pick G H vs ds Q k g r q c)
theorem callr_or {f : String} {r r' : List V → Hp → VK → Prop} (h : CallR X (.builtin f) r) (h' : CallR X (.builtin f) r') : CallR X (.builtin f) (fun vs H Q => r vs H Q ∨ r' vs H Q) := fun pins s σ H vs us Q I rv q => q.elim (h pins s σ H vs us Q I rv) (h' pins s σ H vs us Q I rv)
theorem call_maxB (hK : X.K = K) (hc : X.calm = true) {k : Nat} (hr : Room k X.A) : CallR X (.builtin "max") (rMaxB K) := by
  subst hK
  exact callr_or (cr_max hc) (call_maxD hc hr)
theorem call_minB (hK : X.K = K) (hc : X.calm = true) {k : Nat} (hr : Room k X.A) : CallR X (.builtin "min") (rMinB K) := by
  subst hK
  exact callr_or (cr_min hc) (call_minD hc hr)
end
/-! ### how they are used: ints -/
theorem toPyL_ints : ∀ ns : List Int, toPyL (ns.map .int) = ns.map PyData.int
  | [] => rfl
  | n :: ns => by
    show toPy (.int n) :: toPyL (ns.map .int) = _
    rw [toPyL_ints ns]
    rfl
theorem okI (n : Nat) : ∀ ns : List Int, okL n (ns.map .int) = true
  | [] => by cases n <;> rfl
  | x :: xs => by
    show okL n (.int x :: xs.map .int) = true
    unfold okL
    rw [okI n xs]
    cases n <;> rfl
theorem alike_ints (ns : List Int) : PySem.W.AlikeAll (ns.map PyData.int) := ⟨fun x hx y hy => by
  obtain ⟨i, _, rfl⟩ := List.mem_map.mp hx
  obtain ⟨j, _, rfl⟩ := List.mem_map.mp hy
  rfl, fun x hx => by
  obtain ⟨i, _, rfl⟩ := List.mem_map.mp hx
  intro h
  cases h⟩
theorem foldl_max_ge : ∀ (ns : List Int) (n : Int), n ≤ ns.foldl max n ∧ ∀ y ∈ ns, y ≤ ns.foldl max n
  | [], n => ⟨Int.le_refl _, fun y hy => by cases hy⟩
  | x :: xs, n => by
    obtain ⟨h1, h2⟩ := foldl_max_ge xs (max n x)
    rw [List.foldl_cons]
    refine ⟨by omega, fun y hy => ?_⟩
    rcases List.mem_cons.mp hy with rfl | hy
    · omega
    · exact h2 y hy
/-- max of a tuple of numbers -/
theorem maxT {ns : List Int} {Q : D → Prop} (h0 : 0 < ns.length) (h : ∀ m, m ∈ ns → (∀ y ∈ ns, y ≤ m) → Q (.int m)) : mMaxB [.tup (ns.map .int)] Q := by
  cases ns with
  | nil => cases h0
  | cons n ns =>
    refine .inr ⟨okI 59 (n :: ns), ?_, fun i d hd hi => ?_⟩
    · show PySem.W.AlikeAll (toPyL ((n :: ns).map .int))
      rw [toPyL_ints]
      exact alike_ints _
    · have e : PySem.W.maxD (toPy (.int n)) (toPyL (ns.map .int)) = .int (ns.foldl max n) := by
        rw [toPyL_ints]
        exact PySem.W.maxD_ints n ns
      have hi' : (toPyL ((n :: ns).map .int))[i]? = some (.int (ns.foldl max n)) := by
        rw [← e]
        exact hi
      have hd' : ((n :: ns).map D.int)[i]? = some d := hd
      rw [toPyL_ints, List.getElem?_map] at hi'
      rw [List.getElem?_map] at hd'
      cases hx : (n :: ns)[i]? with
      | none =>
        rw [hx] at hd'
        cases hd'
      | some z =>
        rw [hx] at hd' hi'
        cases hd'
        have ez : z = ns.foldl max n := by
          injection hi' with h1
          injection h1
        refine h z (List.mem_of_getElem? hx) fun y hy => ?_
        rw [ez]
        rcases List.mem_cons.mp hy with rfl | hy
        · exact (foldl_max_ge ns y).1
        · exact (foldl_max_ge ns n).2 y hy
end DL

set_option Elab.async false
set_option linter.all false
set_option maxRecDepth 100000
/-! enumerate of a tuple -/
namespace DL
open PySem PySem.Spec PyProof.Rows L2
section
variable {prog : Program} {w : World} {A : Around} {E : Value → Shared → Prop} {s : Shared}
set_option maxHeartbeats 1000000 in
theorem enumNewT {x : Value} {ob : Obj} {J : Heap → Prop} (beg : Begins x ob J) :
    Meets (Builtin.«enumerate.__new__» ⟨[.type "enumerate", x], []⟩) (fun _ R s => J s.heap ∧ R (.ok (.ret (.ref (s.heap.push ob).objs.size)))
      { s with heap := (s.heap.push ob).push { cls := .type "enumerate", data := .fields #[.none, .bool false, .ref s.heap.objs.size, rawInt 0, .none, .none] } }) :=
  .of_wp fun prog w A R s hyp => by
    obtain ⟨hp, g, d, tk, os⟩ := s
    obtain ⟨h1, hyp⟩ := hyp
    have subE := sub_enumerate
    have it1 : ∀ {A' : Around} {E Q : Value → Shared → Prop}, Q (.ref hp.objs.size) ⟨hp.push ob, g, d, tk, os⟩ → wpAny (model prog w) A' (pyIter x) Q E ⟨hp, g, d, tk, os⟩ :=
      fun z => beg.iter prog w _ _ ⟨hp, g, d, tk, os⟩ _ h1 z
    wp_walk using it1
    refine wpAny_stack_any fun _ => wpAny_pure ?_
    split
    · rename_i c _ _ _ _ _
      cases (c == Value.type "enumerate") <;> (wp_walk using it1; exact ⟨_, rfl, hyp⟩)
    · wp_walk using it1
      exact ⟨_, rfl, hyp⟩
theorem callEnumT {l : Addr} {its : Array Value} {Q : Value → Shared → Prop} (hl : s.heap.IsTuple l its)
    (h : ∀ h', IsEnum h' (s.heap.objs.size + 1) s.heap.objs.size 0 .none → h'.IsTupleIter s.heap.objs.size l 0 → (∀ b u, s.heap.get? b = some u → h'.get? b = some u) → Q (.ref (s.heap.objs.size + 1)) { s with heap := h' }) :
    wpAny (model prog w) A (call (.type "enumerate") [.ref l]) Q E s := by
  have z : (s.heap.push { cls := .type "tuple_iterator", data := .fields #[.ref l, .int 0 0] }).objs.size = s.heap.objs.size + 1 := Heap.size_push ..
  refine callType_new F.called_enumerate (by decide) (F.typeCall_enumerate_1 _) (F.newCall_enumerate_1 _) (fun ob => F.args_object_init_2 ob _) F.entry_enumerate_new (enumNewT (begins_tuple l its)) ⟨hl, ?_⟩
  show _ ∧ _
  rw [z]
  have he : IsEnum ((s.heap.push { cls := .type "tuple_iterator", data := .fields #[.ref l, .int 0 0] }).push { cls := .type "enumerate", data := .fields #[.none, .bool false, .ref s.heap.objs.size, rawInt 0, .none, .none] }) (s.heap.objs.size + 1) s.heap.objs.size 0 .none := by
    have q := Heap.get?_push_size (s.heap.push { cls := .type "tuple_iterator", data := .fields #[.ref l, .int 0 0] }) (o := { cls := .type "enumerate", data := .fields #[.none, .bool false, .ref s.heap.objs.size, rawInt 0, .none, .none] }) rfl
    rw [z] at q
    exact q
  exact ⟨⟨_, he, rfl⟩, h _ he ⟨_, Heap.get?_push_of_some _ (Heap.get?_push_size _ rfl), rfl, rfl⟩ fun b u x => Heap.get?_push_of_some _ (Heap.get?_push_of_some _ x)⟩
end
/-- the tuple at a, each item in a new pair -/
def IteT (K : PySem.W.Frag) (a : Addr) : It :=
  ⟨fun i H => ∃ (xs : List V) (x : V), SqT K H a xs ∧ xs[i]? = some x, fun i H v H' => ∃ P x, v = .ref P ∧ H P = none ∧ H' = upd H P (.tup [.int (i : Nat), x]) ∧ ∀ xs, SqT K H a xs → xs[i]? = some x, fun i H => ∃ xs : List V, SqT K H a xs ∧ xs.length ≤ i⟩
theorem turnEnumT {P : Program} {w : World} {K : PySem.W.Frag} {elts : List Expr} {kk : Nat} {tpos : Pos} (a e it : Addr) (n1 : e ≠ it) (n2 : a ≠ it) (n3 : e ≠ a) :
    Turn P w K (.Tuple elts kk tpos) (IteT K a) [e, it] e (fun i h => (∃ old, IsEnum h e it ((i : Nat) : Int) old) ∧ h.IsTupleIter it a i) where
  mem := by simp
  obj := fun i h st b hb => by
    obtain ⟨⟨old, he⟩, ⟨o, ho, hc, hd⟩⟩ := st
    have z : b = e ∨ b = it := by simpa using hb
    rcases z with z | z
    · rw [z]
      exact ⟨_, he, fun v q => nomatch q⟩
    · rw [z]
      exact ⟨o, ho, fun v q => by rw [hd] at q; cases q⟩
  keep := fun i h h' st k => let ⟨⟨old, he⟩, hi⟩ := st; ⟨⟨old, k e (by simp) _ he⟩, hi.at fun o q => k it (by simp) o q⟩
  item := by
    intro X hP hw hK hc i pins s σ H E I hf st hg
    subst hP hw hK
    obtain ⟨⟨old, he⟩, hit⟩ := st
    obtain ⟨xs, x, hq, hx⟩ := hg
    obtain ⟨its, rv, p, hz⟩ := I.tuple hq
    obtain ⟨u, hu, ru⟩ := rv.get hx
    have hel : e < s.heap.objs.size := Heap.lt_size he
    have hil : it < s.heap.objs.size := by
      obtain ⟨_, q, _⟩ := hit
      exact Heap.lt_size q
    have Dr := Draws.tuple (prog := X.prog) (w := X.w) (A := X.A.in1) (I.ok.hd hc) it a n2 its.toArray
    have hlen : i < its.toArray.size := by
      have := (List.getElem?_eq_some_iff.mp hu).1
      simpa using this
    refine wpAny_pyNext_enum_itemD Dr he ⟨hit, p⟩ hlen n1 (by simp [n1, n3]) fun y h' tk hy ho hst' hT hsz hk => ?_
    have ey : y = u := by
      have hy' : its.toArray[i]? = some y := hy
      rw [List.getElem?_toArray, hu] at hy'
      exact (Option.some.inj hy').symm
    subst ey
    refine ⟨_, rfl, wpAny_letOwnedTupleGo_enum (s := { s with heap := h', toks := tk + 1 }) ho fun h'' he' sb => ?_⟩
    have hT2 : h''.get? s.heap.objs.size = some { cls := .type "tuple", data := .seq #[.int i tk, y] } := (sb.2 _ (Nat.ne_of_gt hel)).trans hT
    have new : ObjOk X.prog X.w (upd H s.heap.objs.size (.tup [.int (i : Nat), x])) h'' s.heap.objs.size (.tup [.int (i : Nat), x]) :=
      ⟨(show 2 ≤ sizeLine by decide), [.int i tk, y], .cons ⟨_, rfl⟩ (.cons ru .nil), ⟨_, hT2, rfl, _, rfl⟩⟩
    have I1 : Inv X pins σ (upd H s.heap.objs.size (.tup [.int (i : Nat), x])) { s with heap := h'', toks := tk + 1 } :=
      I.turnedNew (ch := [e, it]) (fun b ob hb q => (sb.2 b (fun z => hb (by simp [z]))).trans (hk b ob (fun z => hb (by simp [z])) (fun z => hb (by simp [z])) q)) hf (Nat.le_refl _) new
    refine ⟨.ref s.heap.objs.size, _, I1, rfl, ⟨_, x, rfl, I.hok.fresh (Nat.le_refl _), rfl, fun ys hys => by rw [I.tuple_inj hys hq]; exact hx⟩, ⟨⟨y, ?_⟩, hst'.1.at fun o q => (sb.2 it (Ne.symm n1)).trans q⟩, fun b hb => ?_⟩
    · have e1 : ((i + 1 : Nat) : Int) = (i : Int) + 1 := by omega
      rw [e1]
      exact he'
    · have z : b = e ∨ b = it := by simpa using hb
      have hb' : b < s.heap.objs.size := by
        rcases z with z | z
        · rw [z]
          exact hel
        · rw [z]
          exact hil
      rw [upd_ne (Nat.ne_of_lt hb')]
      exact (hf b hb).1
  done := by
    intro X hP hw hK hc i pins s σ H E I hf st hg
    subst hP hw hK
    obtain ⟨⟨old, he⟩, hit⟩ := st
    obtain ⟨xs, hq, hx⟩ := hg
    obtain ⟨its, rv, p, hz⟩ := I.tuple hq
    obtain ⟨f0, f1, f2, f3, f4, f5⟩ := hf it (by simp)
    have hl := rv.length
    have hT : s.TypeIs (.ref e) "enumerate" := ⟨_, he, rfl⟩
    unfold pyNext
    have sp := F.slot_enumerate_next
    refine wpAny_bind (wpAny_attempt (wpAny_callSpecial?_slot (name := Str.ofString "__next__") hT sp (wpAny_call_entry sp hT F.entry_enumerate_next ?_ (F.args_enumerate_next_1 _))))
    show wpAny _ _ (field (.ref e) 2 >>= _) _ _ _
    refine wpAny_bind (wpAny_field he rfl (x := .ref it) rfl (wpAny_bind (wpAny_nextOf_tuple_end (A := X.A.in1) (I.ok.hd hc) hit p (by simp; omega) fun h' x eb ⟨o, ho, hc'⟩ => ?_)))
    refine wpAny_bind (wpAny_isInstance (T := "StopIteration") (b := true) ⟨o, ho, hc'⟩ isSubtype_stop (wpAny_pure ?_))
    exact ⟨rfl, I.turned (t' := s.toks) (fun b o hb q => eb b o hb q) f0 f1 f3 f4 f5⟩
  self := fun A i s Q E st h => let ⟨⟨_, he⟩, _⟩ := st; wpAny_pyIter_enum he h
/-- enumerate of a list or of a tuple -/
def iEnumB (K : PySem.W.Frag) (ta : TA) : TI := fun σ H R => ta σ H fun vs H1 => ∃ a xs, vs = [.ref a] ∧ ((SqL K H1 a xs ∧ R (Ite K a) H1) ∨ (SqT K H1 a xs ∧ R (IteT K a) H1))
theorem pi_enumB {X : Cx} {K : Frg} {e : Expr} {ta : TA} {p pos tpos : Pos} {elts : List Expr} {kk : Nat} (hK : X.K = K) (hg : Gl X "enumerate") (hm : X.mg "enumerate" = none) (ha : PA X [e] ta) (hs : starEach [e] X.env = [(false, eval e X.env)]) :
    PI X (.Tuple elts kk tpos) (.Call (.Name "enumerate" p) [e] [] pos) (iEnumB K ta) := by
  subst hK
  refine ⟨fun pins s σ H R I h => Call_ (ld_blt I hg hm boot_enumerate (PyProof.Rows.callWith_type1 (thn (ha.run pos pins s σ H _ I h) fun us s1 ⟨vs, H1, I1, r1, q1⟩ => ?_) hs rfl))⟩
  obtain ⟨a, xs, ex, q⟩ := q1
  subst ex
  cases r1 with
  | cons r rr =>
    cases rr
    cases r
    have fresh : ∀ b, b = s1.heap.objs.size + 1 ∨ b = s1.heap.objs.size → s1.heap.objs.size ≤ b := fun b hb => by
      rcases hb with z | z
      · rw [z]
        exact Nat.le_add_right _ _
      · rw [z]
        exact Nat.le_refl _
    rcases q with ⟨hq, q⟩ | ⟨hq, q⟩
    · obtain ⟨its, rv, pl, hz⟩ := I1.list hq
      refine call_enumerate_list pl.isList fun h' he hit hsz hk => wpAny_pyIter_enum he ?_
      have I2 : Inv X pins σ H1 { s1 with heap := h' } := I1.kept (t' := s1.toks) hk
      refine ⟨s1.heap.objs.size + 1, [s1.heap.objs.size + 1, s1.heap.objs.size], _, _, H1, rfl, I2, turn_enum a (s1.heap.objs.size + 1) s1.heap.objs.size, ⟨⟨.none, he⟩, hit, Nat.succ_ne_self _⟩, fun b hb => ?_, q⟩
      have hle := fresh b (by simpa using hb)
      exact I1.fpOk hle (I1.hok.fresh hle)
    · obtain ⟨its, rv, pl, hz⟩ := I1.tuple hq
      have al : a < s1.heap.objs.size := by
        obtain ⟨o, ho, _⟩ := id pl
        exact Heap.lt_size ho
      refine callEnumT pl fun h' he hit hk => wpAny_pyIter_enum he ?_
      have I2 : Inv X pins σ H1 { s1 with heap := h' } := I1.kept (t' := s1.toks) hk
      refine ⟨s1.heap.objs.size + 1, [s1.heap.objs.size + 1, s1.heap.objs.size], _, _, H1, rfl, I2, turnEnumT a (s1.heap.objs.size + 1) s1.heap.objs.size (Nat.succ_ne_self _) (Nat.ne_of_lt al) (Nat.ne_of_gt (Nat.lt_succ_of_lt al)), ⟨⟨.none, he⟩, hit⟩, fun b hb => ?_, q⟩
      have hle := fresh b (by simpa using hb)
      exact I1.fpOk hle (I1.hok.fresh hle)
section
variable {ι : Type} {X : ι → Cx} {K : Frg} {e : Expr} {mr : M (List D)} {p pos tpos : Pos}
theorem walk_et {R : Gh → Hp → Prop} {a : Addr} {vs : List V} {xs : List D} (h : ∀ G1 H1, R G1 H1 → GRel G1 H1 → SqT K H1 a vs ∧ RepL G1 xs vs) : WalkR R (IteT K a) (enumD 0 xs) := by
  intro i G1 H1 r g
  obtain ⟨h1, h2⟩ := h G1 H1 r g
  rw [enumD_len]
  refine ⟨fun hi => ?_, fun hi => ⟨vs, h1, by rw [← h2.length]; exact hi⟩, fun x H2 d hd hy => ?_⟩
  · obtain ⟨v, hv, _⟩ := h2.get (List.getElem?_eq_getElem hi)
    exact ⟨vs, v, h1, hv⟩
  · obtain ⟨T, y, e1, n, e3, e4⟩ := hy
    subst e1
    subst e3
    rw [enumD_get] at hd
    cases hx : xs[i]? with
    | none =>
      rw [hx] at hd
      cases hd
    | some dx =>
      rw [hx] at hd
      cases hd
      obtain ⟨v, hv, rv⟩ := h2.get hx
      have e5 := e4 vs h1
      rw [hv] at e5
      cases e5
      rw [Nat.zero_add]
      obtain ⟨s, g', rr⟩ := new_tup (ds := [.int (i : Int), dx]) g n ⟨_, _, rfl, rfl, _, _, rfl, rv, rfl⟩
      exact ⟨_, s, g', rr⟩
def mEnumB (m : M (List D)) : M (List D) := fun en Q => m en fun ds => match ds with
  | [.lst xs] => Q (enumD 0 xs)
  | [.tup xs] => Q (enumD 0 xs)
  | _ => False
theorem pid_enumB {elts : List Expr} {kk : Nat} (hK : ∀ i, (X i).K = K) (hg : ∀ i, Gl (X i) "enumerate") (hm : ∀ i, (X i).mg "enumerate" = none) (ha : PAd X [e] mr) (hs : ∀ i, starEach [e] (X i).env = [(false, eval e (X i).env)] := by intro _; rfl) :
    PId X (.Tuple elts kk tpos) (.Call (.Name "enumerate" p) [e] [] pos) (mEnumB mr) := by
  obtain ⟨t, h1, h2⟩ := ha.ex
  refine ⟨_, fun i => pi_enumB (hK i) (hg i) (hm i) (h1 i) (hs i), fun B G en σ H Q k r q c => h2 B G en σ H _ _ r q fun vs H1 G1 ds s1 g1 r1 q1 => ?_⟩
  match ds, r1, q1 with
  | [.lst xs], ⟨v, _, e, h, e'⟩, q1 =>
    subst e
    cases e'
    obtain ⟨a, ws, e, k1, k2⟩ := h
    subst e
    exact ⟨a, ws, rfl, .inl ⟨SqL.of (g1.f _ _ k1), c _ H1 G1 _ s1 g1 (walk_e fun G2 H2 l g2 => ⟨SqL.of (g2.f _ _ (l.f _ _ k1)), k2.mono l⟩) q1⟩⟩
  | [.tup xs], ⟨v, _, e, h, e'⟩, q1 =>
    subst e
    cases e'
    obtain ⟨a, ws, e, k1, k2⟩ := h
    subst e
    exact ⟨a, ws, rfl, .inr ⟨SqT.of (g1.f _ _ k1), c _ H1 G1 _ s1 g1 (walk_et fun G2 H2 l g2 => ⟨SqT.of (g2.f _ _ (l.f _ _ k1)), k2.mono l⟩) q1⟩⟩
theorem pib_enumB {elts : List Expr} {kk : Nat} (hK : ∀ i, (X i).K = K) (hg : ∀ i, Gl (X i) "enumerate") (hm : ∀ i, (X i).mg "enumerate" = none) (ha : PAB X [e] mr) (hs : ∀ i, starEach [e] (X i).env = [(false, eval e (X i).env)] := by intro _; rfl) :
    PIB X (.Tuple elts kk tpos) (.Call (.Name "enumerate" p) [e] [] pos) (mEnumB mr) := by
  obtain ⟨t, h1, h2⟩ := ha.ex
  refine ⟨_, fun i => pi_enumB (hK i) (hg i) (hm i) (h1 i) (hs i), fun B G en σ H Q k r q c => h2 B G en σ H _ _ r q fun vs H1 G1 ds s1 g1 r1 q1 => ?_⟩
  match ds, r1, q1 with
  | [.lst xs], ⟨v, _, e, h, e'⟩, q1 =>
    subst e
    cases e'
    obtain ⟨a, ws, e, k1, ks, k2⟩ := h
    subst e
    exact ⟨a, ws, rfl, .inl ⟨SqL.of k1, c _ H1 G1 _ s1 g1 (walk_e fun G2 H2 l g2 => ⟨SqL.of (l.keep _ _ k1 ks), k2.mono l.le⟩) q1⟩⟩
  | [.tup xs], ⟨v, _, e, h, e'⟩, q1 =>
    subst e
    cases e'
    obtain ⟨a, ws, e, k1, k2⟩ := h
    subst e
    exact ⟨a, ws, rfl, .inr ⟨SqT.of (g1.f _ _ k1), c _ H1 G1 _ s1 g1 (walk_et fun G2 H2 l g2 => ⟨SqT.of (g2.f _ _ (l.f _ _ k1)), k2.mono l.le⟩) q1⟩⟩
end
end DL

set_option Elab.async false
set_option linter.all false
set_option maxRecDepth 100000
/-! t[::-1] of a tuple -/
namespace DL
open PySem PySem.Spec PyProof.Rows L2
section
variable {prog : Program} {w : World} {A : Around} {E : Value → Shared → Prop} {s : Shared}
theorem adjust_rev (n : Nat) : Builtin.Slice.sliceAdjust none none (-1) (n : Int) = ((n : Int) - 1, -1) := by
  unfold Builtin.Slice.sliceAdjust
  simp
theorem places_rev (n : Nat) : Builtin.Slice.slicePlaces ((n : Int) - 1) (-1) (-1) = n := by
  unfold Builtin.Slice.slicePlaces
  simp
  omega
theorem applied_rev {sl : Addr} {vs : Value} {n : Nat} {Q : Int × Int × Nat → Shared → Prop} (hs : s.heap.IsSliceOf sl .none .none vs) (ps : IsPart vs (some (-1)))
    (h : Q ((n : Int) - 1, -1, n) s) : wpAny (model prog w) A (Builtin.Slice.sliceApplied (.ref sl) (pure (n : Int))) Q E s := by
  obtain ⟨os, hos, hcs, hds⟩ := id hs
  unfold Builtin.Slice.sliceApplied Builtin.Slice.sliceFields
  refine wpAny_bind (wpAny_bind (wpAny_field hos hds (x := .none) rfl (wpAny_bind (wpAny_field hos hds (x := .none) rfl (wpAny_bind (wpAny_field hos hds (x := vs) rfl (wpAny_pure ?_)))))))
  refine wpAny_bind (HT.slicePart_ ps ?_)
  show wpAny _ _ (if ((-1 : Int) == 0) = true then _ else _) _ _ s
  rw [if_neg (by decide)]
  refine wpAny_bind (slicePart_none (wpAny_bind (slicePart_none (wpAny_bind (wpAny_pure ?_)))))
  show wpAny _ _ (match Builtin.Slice.sliceAdjust none none (-1) (n : Int) with | (a, b) => pure (a, (-1 : Int), Builtin.Slice.slicePlaces a b (-1))) _ _ s
  rw [adjust_rev n]
  show wpAny _ _ (pure ((n : Int) - 1, (-1 : Int), Builtin.Slice.slicePlaces ((n : Int) - 1) (-1) (-1))) _ _ s
  rw [places_rev]
  exact wpAny_pure h
theorem pick_rev (xs : Array Value) : ((List.range xs.size).filterMap fun (m : Nat) => xs[(((xs.size : Int) - 1) + (m : Int) * -1).toNat]?).toArray = xs.toList.reverse.toArray := by
  congr 1
  have e : (List.range xs.size).filterMap (fun (m : Nat) => xs[(((xs.size : Int) - 1) + (m : Int) * -1).toNat]?) = ((List.range xs.size).map fun k => xs.size - 1 - k).filterMap (xs[·]?) := by
    rw [List.filterMap_map]
    have gen : ∀ l : List Nat, (∀ m ∈ l, m < xs.size) → l.filterMap (fun (m : Nat) => xs[(((xs.size : Int) - 1) + (m : Int) * -1).toNat]?) = l.filterMap ((xs[·]?) ∘ fun k => xs.size - 1 - k) := by
      intro l
      induction l with
      | nil => intro _; rfl
      | cons m l ih =>
        intro hl
        have hm := hl m List.mem_cons_self
        have z : ((((xs.size : Int) - 1) + (m : Int) * -1).toNat) = xs.size - 1 - m := by omega
        rw [List.filterMap_cons, List.filterMap_cons, ih fun k hk => hl k (List.mem_cons_of_mem _ hk), z]
        rfl
    exact gen _ fun m hm => List.mem_range.mp hm
  rw [e, PySem.W.krv_range, List.filterMap_reverse, PySem.W.krv_all]
theorem getItemRevT {t sl : Addr} {items : Array Value} {vs : Value} {Q : Value → Shared → Prop} (ht : IsTup s.heap t items) (hs : s.heap.IsSliceOf sl .none .none vs) (ps : IsPart vs (some (-1)))
    (h : Q (.ref s.heap.objs.size) { s with heap := s.heap.push { cls := .type "tuple", data := .seq items.toList.reverse.toArray } }) (hsz : items.size ≤ sizeLine) : wpAny (model prog w) A (getItem (.ref t) (.ref sl)) Q E s := by
  have ok : sizeOk (.seq items.toList.reverse.toArray) := by
    show items.toList.reverse.toArray.size ≤ sizeLine
    rw [List.size_toArray, List.length_reverse, Array.length_toList]
    exact hsz
  obtain ⟨os, hos, hcs, hds⟩ := id hs
  have hTs : s.TypeIs (.ref sl) "slice" := ⟨os, hos, hcs⟩
  have sg := PyProof.Rows.slot_tuple_getitem
  unfold getItem
  try with_reducible refine wpAny_holding ?_
  first | refine wpAny_bind (wpAny_pure ?_) | skip
  refine wpAny_bind (wpAny_sequenceKey ht.typeIs (by decide) (wpAny_bind (wpAny_callSpecial?_slot (name := Str.ofString "__getitem__") ht.typeIs sg (wpAny_call_entry sg ht.typeIs entry_tuple_getitem ?_ (args_tuple_getitem _ _)))))
  show wpAny _ _ (Builtin.Tuple.tupleItemsOf (.ref t) >>= _) _ _ s
  refine wpAny_bind (tupleItemsOf_ ht (wpAny_bind (wpAny_typeOf hTs ?_)))
  rw [if_pos (by decide)]
  refine wpAny_bind (applied_rev hs ps ?_)
  have no : ¬ ((((items.size : Int) - 1) == 0 && (-1 : Int) == 1 && items.size == items.size) = true) := by
    intro q
    rw [Bool.and_eq_true, Bool.and_eq_true] at q
    exact absurd q.1.2 (by decide)
  show wpAny _ _ (if (((items.size : Int) - 1) == 0 && (-1 : Int) == 1 && items.size == items.size) = true then _ else _) _ _ s
  rw [if_neg no, pick_rev]
  first
    | exact wpAny_bind (m := Builtin.Tuple.tupleExact _) (wpAny_newObj_type (wpAny_pure ⟨_, rfl, wpAny_pure h⟩) ok)
    | exact wpAny_bind (m := Builtin.Tuple.tupleExact _) (wpAny_newObj_type (wpAny_bind (wpAny_pure (wpAny_pure ⟨_, rfl, wpAny_pure h⟩))) ok)
    | exact wpAny_bind (wpAny_bind (m := Builtin.Tuple.tupleExact _) (wpAny_newObj_type (wpAny_pure (wpAny_pure ⟨_, rfl, wpAny_pure h⟩)) ok))
    | exact wpAny_bind (wpAny_bind (m := Builtin.Tuple.tupleExact _) (wpAny_newObj_type (wpAny_pure ⟨_, rfl, wpAny_pure h⟩) ok))
end
end DL
namespace DL
open PySem PySem.Spec PyProof.Rows L2
def tRevB (K : PySem.W.Frag) (te : TE) : TE := fun σ H Q => te σ H fun x H1 => ∃ a xs, x = .ref a ∧ ((SqL K H1 a xs ∧ ∀ p, H1 p = none → Q (.ref p) (upd H1 p (.lst xs.reverse))) ∨ (SqT K H1 a xs ∧ ∀ p, H1 p = none → Q (.ref p) (upd H1 p (.tup xs.reverse))))
theorem pe_revB {X : Cx} {e : Expr} {te : TE} {k : Nat} {p1 p2 p3 pos : Pos} (he : PE X e te) : PE X (.Subscript e (.Slice none none (some (.UnaryOp .USub (.Constant (.int 1) k p1) p2)) p3) pos) (tRevB X.K te) := by
  refine ⟨fun pins s σ H Q I h => Subscript_ (thn (he.run pins s σ H _ I h) fun v s1 ⟨x, H1, I1, r1, q1⟩ => ?_)⟩
  obtain ⟨a, xs, ex, q⟩ := q1
  subst ex
  cases r1
  have stp : PO X (some (.UnaryOp .USub (.Constant (.int 1) k p1) p2)) (tPart (tUn (rU fun i => .int (-i)) (tC (.int 1)))) := po_some (pe_un un_neg pe_int)
  refine wpAny_Slice (thn (po_none.run pins s1 σ H1 (fun o H2 => o = none ∧ H2 = H1) I1 ⟨rfl, rfl⟩) fun vl s2 ⟨l, H2, I2, pl, el, e2⟩ => ?_)
  subst el e2
  refine thn (po_none.run pins s2 σ H2 (fun o H3 => o = none ∧ H3 = H2) I2 ⟨rfl, rfl⟩) fun vu s3 ⟨u, H3, I3, pu, eu, e3⟩ => ?_
  subst eu e3
  refine thn (stp.run pins s3 σ H3 (fun o H4 => o = some (-1) ∧ H4 = H3) I3 ⟨1, rfl, -1, rfl, rfl, rfl⟩) fun vs s4 ⟨o, H4, I4, ps, eo, e4⟩ => ?_
  subst eo e4
  have I5 : Inv X pins σ H4 { s4 with heap := s4.heap.push { cls := .type "slice", data := .fields #[vl, vu, vs] } } := I4.kept (t' := s4.toks) fun b ob z => Heap.get?_push_of_some _ z
  show wpAny (model X.prog X.w) X.A (subscriptTail e (.Slice none none (some (.UnaryOp .USub (.Constant (.int 1) k p1) p2)) p3) (.ref a) (.ref s4.heap.objs.size)) (EP X pins σ Q) X.xe { s4 with heap := s4.heap.push { cls := .type "slice", data := .fields #[vl, vu, vs] } }
  rcases q with ⟨hx, q⟩ | ⟨hx, q⟩
  · obtain ⟨its, r, ht, hz⟩ := I5.list hx
    have hlen := r.length
    refine tail_any (ops := [.ref a, .ref s4.heap.objs.size]) ht.isList.typeIs (PySem.slot_list_getitem.lookup) (wpAny_getItem_list_slice ht.isList (Heap.IsSliceOf.new _ vl vu vs) pl pu ps (by decide) ?_ (by rw [List.size_toArray]; omega)) (by with_unfolding_all rfl)
    rw [PySem.W.krv_pick]
    exact ⟨.ref _, _, I5.laid (t' := s4.toks) (o := .lst xs.reverse) (fun b ob z => Heap.get?_push_of_some _ z) (Nat.le_refl _) ⟨by rw [List.length_reverse]; exact hz, _, 0, r.reverse, Heap.get?_push_size _ rfl⟩, rfl, q _ (I5.hok.fresh (Nat.le_refl _))⟩
  · obtain ⟨its, r, ht, hz⟩ := I5.tuple hx
    have hlen := r.length
    cases pl
    cases pu
    refine tail_any (ops := [.ref a, .ref s4.heap.objs.size]) ht.typeIs (PyProof.Rows.slot_tuple_getitem.lookup) (getItemRevT ht (Heap.IsSliceOf.new _ .none .none vs) ps ?_ (by rw [List.size_toArray]; omega)) (by with_unfolding_all rfl)
    refine ⟨.ref _, _, I5.laid (t' := s4.toks) (o := .tup xs.reverse) (fun b ob z => Heap.get?_push_of_some _ z) (Nat.le_refl _) ⟨by rw [List.length_reverse]; exact hz, _, r.reverse, ?_⟩, rfl, q _ (I5.hok.fresh (Nat.le_refl _))⟩
    exact IsTup.new _ _
section
variable {ι : Type} {X : ι → Cx} {K : Frg} {e : Expr} {m : M D} {pos : Pos}
def mRevB (m : M D) : M D := fun en Q => m en fun x => match x with
  | .lst xs => Q (.lst xs.reverse)
  | .tup xs => Q (.tup xs.reverse)
  | _ => False
theorem pd_revB {k : Nat} {p1 p2 p3 : Pos} (hK : ∀ i, (X i).K = K) (h : PB X e m) : PD X (.Subscript e (.Slice none none (some (.UnaryOp .USub (.Constant (.int 1) k p1) p2)) p3) pos) (mRevB m) := by
  obtain ⟨t, h1, h2⟩ := h.ex
  refine ⟨tRevB K t, fun i => by rw [← hK i]; exact pe_revB (h1 i), fun B G en σ H Q k r q c => h2 B G en σ H _ _ r q fun v H1 G1 d s g rp q => ?_⟩
  cases d with
  | lst xs =>
    obtain ⟨a, vs, e, h3, h4, h5⟩ := rp
    subst e
    refine ⟨a, vs, rfl, .inl ⟨SqL.of h3, fun p n => ?_⟩⟩
    obtain ⟨s2, g2, r2⟩ := new_lst g n h5.reverse
    exact c _ _ _ _ (s.trans s2) g2 r2 q
  | tup xs =>
    obtain ⟨a, vs, e, h3, h5⟩ := rp
    subst e
    refine ⟨a, vs, rfl, .inr ⟨SqT.of (g.f _ _ h3), fun p n => ?_⟩⟩
    obtain ⟨s2, g2, r2⟩ := new_tup g n h5.reverse
    exact c _ _ _ _ (s.trans s2) g2 r2 q
  | _ => exact False.elim q
end
end DL

set_option Elab.async false
set_option linter.all false
set_option maxRecDepth 100000
/-! a tuple taken no time, once -/
namespace DL
open PySem PySem.Spec PyProof.Rows L2
theorem tupMul0 (l : Addr) (its : Array Value) (c : Nat) (dd : Option Addr) (sl : Array (Option Value)) (x : Int) (u : Tok) (c0 : (decide (x < -(2 ^ 63)) || decide (x ≥ 2 ^ 63)) = false) (c1 : (its.isEmpty || x == 1) = false) (c2 : (decide (x ≤ 0) || its.isEmpty) = true) :
    Meets (Builtin.«tuple.__mul__» ⟨[.ref l, .int x u], []⟩) (fun _ R s => s.heap.get? l = some { cls := .type "tuple", dict := dd, data := .seq its c, slots := sl } ∧
      R (.ok (.ret (Value.ref s.heap.objs.size))) { s with heap := s.heap.push { cls := Value.type "tuple", data := Data.seq #[] }, toks := s.toks }) :=
  .of_wp fun prog w A R s hyp => by
    obtain ⟨hp, g, d, tk, os⟩ := s
    obtain ⟨hl, hyp⟩ := hyp
    have ix := AutoSeq1.idx_int
    have z0 : sizeOk (.seq #[]) := Nat.zero_le _
    wp_walk using wpAny_loadPart' hl
    refine wpAny_ite_false (decide_eq_false (by rw [c0]; decide)) ?_
    wp_walk using wpAny_loadPart' hl
    exact ⟨_, rfl, hyp⟩
theorem tupMul1 (l : Addr) (its : Array Value) (c : Nat) (dd : Option Addr) (sl : Array (Option Value)) (x : Int) (u : Tok) (c0 : (decide (x < -(2 ^ 63)) || decide (x ≥ 2 ^ 63)) = false) (c1 : (its.isEmpty || x == 1) = true) :
    Meets (Builtin.«tuple.__mul__» ⟨[.ref l, .int x u], []⟩) (fun _ R s => s.heap.get? l = some { cls := .type "tuple", dict := dd, data := .seq its c, slots := sl } ∧ R (.ok (.ret (Value.ref l))) s) :=
  .of_wp fun prog w A R s hyp => by
    obtain ⟨hp, g, d, tk, os⟩ := s
    obtain ⟨hl, hyp⟩ := hyp
    have ix := AutoSeq1.idx_int
    wp_walk using wpAny_loadPart' hl
    refine wpAny_ite_false (decide_eq_false (by rw [c0]; decide)) ?_
    wp_walk using wpAny_loadPart' hl
    exact ⟨_, rfl, hyp⟩
/-- t * k for k below 1: (); t * 1: t itself -/
def rRepT0 (K : PySem.W.Frag) : R2 := fun x y H Q => ∃ l k xs, x = .ref l ∧ y = .int k ∧ SqT K H l xs ∧ xs ≠ [] ∧ -(2 ^ 63) ≤ k ∧ ((k ≤ 0 ∧ ∀ p, H p = none → Q (.ref p) (upd H p (.tup []))) ∨ (k = 1 ∧ Q (.ref l) H))
theorem op_repT0 {X : Cx} : OpR X (binaryOp .Mult) (rRepT0 X.K) := by
  intro pins s σ H x y v u Q I rx ry h
  obtain ⟨l, k, xs, rfl, rfl, hT, hne, hk, q⟩ := h
  cases rx
  obtain ⟨t, rfl⟩ := ry
  obtain ⟨its, r, ⟨⟨cls, dd, data, sl⟩, ho, hc, n, hd⟩, hs⟩ := I.tuple hT
  simp only at hc hd
  subst hc hd
  have hi : its.toArray.isEmpty = false := by
    cases its with
    | nil =>
      have z := r.length
      exact absurd (List.eq_nil_of_length_eq_zero z) hne
    | cons a b => rfl
  have rr := int_rmul_tuple k t l its.toArray n dd sl
  rcases q with ⟨h0, q⟩ | ⟨h1, q⟩
  · have c0 : (decide (k < -(2 ^ 63)) || decide (k ≥ 2 ^ 63)) = false := by
      rw [decide_eq_false (by omega), decide_eq_false (by omega)]
      rfl
    have c1 : (its.toArray.isEmpty || k == 1) = false := by
      rw [hi, Bool.false_or]
      exact beq_eq_false_iff_ne.mpr (by omega)
    have c2 : (decide (k ≤ 0) || its.toArray.isEmpty) = true := by rw [decide_eq_true h0, Bool.true_or]
    refine wpAny_binaryOp_repeat_ref (T := "tuple") (U := "int") (by decide) ⟨_, ho, rfl⟩ (fun s' => typeIs_int s' k t) noFill_tuple_mul F.fills_int_mul F.slot_int_rmul repeat_tuple F.slot_int_index.lookup
      (call_meets F.slot_int_rmul (typeIs_int s k t) F.entry_int_rmul (F.args_int_rmul_2 _ _) rr ⟨ho, rfl, ⟨_, ho, rfl⟩, call_meets F.slot_tuple_mul ⟨_, ho, rfl⟩ F.entry_tuple_mul (F.args_tuple_mul_2 _ _) (tupMul0 l its.toArray n dd sl k t c0 c1 c2) ⟨ho, ?_⟩⟩)
    refine ⟨.ref s.heap.objs.size, _, I.laid (t' := s.toks) (o := .tup []) (fun b ob z => Heap.get?_push_of_some _ z) (Nat.le_refl _) ?_, rfl, q _ (I.hok.fresh (Nat.le_refl _))⟩
    exact ⟨Nat.zero_le _, [], .nil, IsTup.new _ _⟩
  · subst h1
    have c1 : (its.toArray.isEmpty || (1 : Int) == 1) = true := by rw [hi]; rfl
    refine wpAny_binaryOp_repeat_ref (T := "tuple") (U := "int") (by decide) ⟨_, ho, rfl⟩ (fun s' => typeIs_int s' 1 t) noFill_tuple_mul F.fills_int_mul F.slot_int_rmul repeat_tuple F.slot_int_index.lookup
      (call_meets F.slot_int_rmul (typeIs_int s 1 t) F.entry_int_rmul (F.args_int_rmul_2 _ _) rr ⟨ho, rfl, ⟨_, ho, rfl⟩, call_meets F.slot_tuple_mul ⟨_, ho, rfl⟩ F.entry_tuple_mul (F.args_tuple_mul_2 _ _) (tupMul1 l its.toArray n dd sl 1 t (by decide) c1) ⟨ho, ?_⟩⟩)
    exact ⟨.ref l, H, I, rfl, q⟩
section
variable {X : Cx} {K : Frg}
def rMulB (K : Frg) : R2 := fun x y H Q => rMulA K x y H Q ∨ rRepT0 K x y H Q
theorem op_mulB (hK : X.K = K) : OpR X (binaryOp .Mult) (rMulB K) := by
  have h1 : OpR X (binaryOp .Mult) (rMulA K) := op_mulA hK
  subst hK
  exact h1.or op_repT0
/-- ints; a list, a tuple (not empty) so many times -/
def mMulB : D → D → (D → Prop) → Prop
  | .tup xs, .int j, Q => xs ≠ [] ∧ -(2 ^ 63) ≤ j ∧ j ≤ 1000 ∧ xs.length ≤ 1000 ∧ Q (.tup (List.replicate j.toNat xs).flatten)
  | a, b, Q => mMul a b Q
theorem os_mulB : OpS (rMulB K) mMulB := by
  intro G H x y dx dy Q k g rx ry q c
  by_cases ht : ∃ xs j, dx = .tup xs ∧ dy = .int j
  · obtain ⟨xs, j, rfl, rfl⟩ := ht
    obtain ⟨h0, h1, h2, h3, q⟩ := q
    by_cases h : 2 ≤ j
    · exact .inl (os_mul G H x y (.tup xs) (.int j) Q k g rx ry ⟨h0, h, h2, h3, q⟩ c)
    · have rx' := rx
      obtain ⟨a, vs, e, k1, k2⟩ := rx'
      have ry' : y = .int j := ry
      subst e ry'
      have hv : vs ≠ [] := fun z => by
        rw [z] at k2
        exact h0 (List.eq_nil_of_length_eq_zero k2.length)
      refine .inr ⟨a, j, vs, rfl, rfl, SqT.of (g.f _ _ k1), hv, h1, ?_⟩
      by_cases h5 : j = 1
      · refine .inr ⟨h5, c _ H G (.tup xs) (Step.refl _ _) g ⟨a, vs, rfl, k1, k2⟩ ?_⟩
        subst h5
        have e1 : (List.replicate (1 : Int).toNat xs).flatten = xs := by
          show (List.replicate 1 xs).flatten = xs
          simp
        rw [e1] at q
        exact q
      · refine .inl ⟨by omega, fun p n => ?_⟩
        have e0 : j.toNat = 0 := by omega
        rw [e0] at q
        obtain ⟨s2, g2, r2⟩ := new_tup (ds := []) (vs := []) g n rfl
        exact c _ _ _ _ s2 g2 r2 q
  · have q' : mMul dx dy Q := by
      cases dx <;> try exact q
      cases dy <;> try exact q
      rename_i xs j
      exact absurd ⟨xs, j, rfl, rfl⟩ ht
    exact .inl (os_mul G H x y dx dy Q k g rx ry q' c)
end
end DL

set_option Elab.async false
set_option linter.all false
set_option maxRecDepth 100000
/-! max, min of pairs of numbers -/
namespace DL
open PySem PySem.Spec PyProof.Rows L2
def prD (x : Int × Int) : D := .tup [.int x.1, .int x.2]
def prP (x : Int × Int) : PyData := .tuple [.int x.1, .int x.2]
/-- x stands ahead of y, or is it -/
def LeP (x y : Int × Int) : Prop := x.1 < y.1 ∨ (x.1 = y.1 ∧ x.2 ≤ y.2)
theorem LeP.refl (x : Int × Int) : LeP x x := .inr ⟨rfl, Int.le_refl _⟩
theorem LeP.trans {x y z : Int × Int} (h : LeP x y) (k : LeP y z) : LeP x z := by
  unfold LeP at *
  omega
theorem LeP.of_not {x y : Int × Int} (h : ¬ (x.1 < y.1 ∨ (x.1 = y.1 ∧ x.2 < y.2))) : LeP y x := by
  unfold LeP
  omega
theorem LeP.anti {x y : Int × Int} (h : LeP x y) (k : LeP y x) : x = y := by
  unfold LeP at *
  apply Prod.ext <;> omega
def maxF (x : Int × Int) (xs : List (Int × Int)) : Int × Int := xs.foldl (fun a y => if a.1 < y.1 ∨ (a.1 = y.1 ∧ a.2 < y.2) then y else a) x
def minF (x : Int × Int) (xs : List (Int × Int)) : Int × Int := xs.foldl (fun a y => if y.1 < a.1 ∨ (y.1 = a.1 ∧ y.2 < a.2) then y else a) x
theorem maxF_top : ∀ (xs : List (Int × Int)) (x : Int × Int), maxF x xs ∈ x :: xs ∧ ∀ y ∈ x :: xs, LeP y (maxF x xs)
  | [], x => ⟨List.mem_cons_self, fun y hy => by rw [List.mem_singleton.mp hy]; exact LeP.refl _⟩
  | z :: zs, x => by
    have e : maxF x (z :: zs) = maxF (if x.1 < z.1 ∨ (x.1 = z.1 ∧ x.2 < z.2) then z else x) zs := rfl
    rw [e]
    by_cases h : x.1 < z.1 ∨ (x.1 = z.1 ∧ x.2 < z.2)
    · rw [if_pos h]
      obtain ⟨h1, h2⟩ := maxF_top zs z
      have hx : LeP x z := by
        unfold LeP
        omega
      refine ⟨List.mem_cons_of_mem _ h1, fun y hy => ?_⟩
      rcases List.mem_cons.mp hy with rfl | hy
      · exact hx.trans (h2 _ List.mem_cons_self)
      · exact h2 y hy
    · rw [if_neg h]
      obtain ⟨h1, h2⟩ := maxF_top zs x
      refine ⟨?_, fun y hy => ?_⟩
      · rcases List.mem_cons.mp h1 with h1 | h1
        · rw [h1]
          exact List.mem_cons_self
        · exact List.mem_cons_of_mem _ (List.mem_cons_of_mem _ h1)
      · rcases List.mem_cons.mp hy with rfl | hy
        · exact h2 _ List.mem_cons_self
        · rcases List.mem_cons.mp hy with rfl | hy
          · exact (LeP.of_not h).trans (h2 _ List.mem_cons_self)
          · exact h2 y (List.mem_cons_of_mem _ hy)
theorem minF_low : ∀ (xs : List (Int × Int)) (x : Int × Int), minF x xs ∈ x :: xs ∧ ∀ y ∈ x :: xs, LeP (minF x xs) y
  | [], x => ⟨List.mem_cons_self, fun y hy => by rw [List.mem_singleton.mp hy]; exact LeP.refl _⟩
  | z :: zs, x => by
    have e : minF x (z :: zs) = minF (if z.1 < x.1 ∨ (z.1 = x.1 ∧ z.2 < x.2) then z else x) zs := rfl
    rw [e]
    by_cases h : z.1 < x.1 ∨ (z.1 = x.1 ∧ z.2 < x.2)
    · rw [if_pos h]
      obtain ⟨h1, h2⟩ := minF_low zs z
      have hx : LeP z x := by
        unfold LeP
        omega
      refine ⟨List.mem_cons_of_mem _ h1, fun y hy => ?_⟩
      rcases List.mem_cons.mp hy with rfl | hy
      · exact (h2 _ List.mem_cons_self).trans hx
      · exact h2 y hy
    · rw [if_neg h]
      obtain ⟨h1, h2⟩ := minF_low zs x
      refine ⟨?_, fun y hy => ?_⟩
      · rcases List.mem_cons.mp h1 with h1 | h1
        · rw [h1]
          exact List.mem_cons_self
        · exact List.mem_cons_of_mem _ (List.mem_cons_of_mem _ h1)
      · rcases List.mem_cons.mp hy with rfl | hy
        · exact h2 _ List.mem_cons_self
        · rcases List.mem_cons.mp hy with rfl | hy
          · exact (h2 _ List.mem_cons_self).trans (LeP.of_not h)
          · exact h2 y (List.mem_cons_of_mem _ hy)
theorem ltP (x y : Int × Int) : PySem.W.dataLt (prP x) (prP y) = decide (x.1 < y.1 ∨ (x.1 = y.1 ∧ x.2 < y.2)) := PySem.W.dataLt_ii _ _ _ _
theorem maxD_pr : ∀ (xs : List (Int × Int)) (x : Int × Int), PySem.W.maxD (prP x) (xs.map prP) = prP (maxF x xs)
  | [], _ => rfl
  | z :: zs, x => by
    have e : PySem.W.maxD (prP x) ((z :: zs).map prP) = PySem.W.maxD (if PySem.W.dataLt (prP x) (prP z) = true then prP z else prP x) (zs.map prP) := rfl
    have e2 : maxF x (z :: zs) = maxF (if x.1 < z.1 ∨ (x.1 = z.1 ∧ x.2 < z.2) then z else x) zs := rfl
    rw [e, e2, ltP]
    by_cases h : x.1 < z.1 ∨ (x.1 = z.1 ∧ x.2 < z.2)
    · rw [if_pos h, if_pos (decide_eq_true h)]
      exact maxD_pr zs z
    · rw [if_neg h, if_neg (by rw [decide_eq_false h]; decide)]
      exact maxD_pr zs x
theorem minD_pr : ∀ (xs : List (Int × Int)) (x : Int × Int), PySem.W.minD (prP x) (xs.map prP) = prP (minF x xs)
  | [], _ => rfl
  | z :: zs, x => by
    have e : PySem.W.minD (prP x) ((z :: zs).map prP) = PySem.W.minD (if PySem.W.dataLt (prP z) (prP x) = true then prP z else prP x) (zs.map prP) := rfl
    have e2 : minF x (z :: zs) = minF (if z.1 < x.1 ∨ (z.1 = x.1 ∧ z.2 < x.2) then z else x) zs := rfl
    rw [e, e2, ltP]
    by_cases h : z.1 < x.1 ∨ (z.1 = x.1 ∧ z.2 < x.2)
    · rw [if_pos h, if_pos (decide_eq_true h)]
      exact minD_pr zs z
    · rw [if_neg h, if_neg (by rw [decide_eq_false h]; decide)]
      exact minD_pr zs x
theorem toPyL_pr : ∀ ps : List (Int × Int), toPyL (ps.map prD) = ps.map prP
  | [] => rfl
  | p :: ps => by
    show toPy (prD p) :: toPyL (ps.map prD) = _
    rw [toPyL_pr ps]
    rfl
theorem alike_pr (ps : List (Int × Int)) : PySem.W.AlikeAll (ps.map prP) := ⟨fun x hx y hy => by
  obtain ⟨i, _, rfl⟩ := List.mem_map.mp hx
  obtain ⟨j, _, rfl⟩ := List.mem_map.mp hy
  simp [prP, PySem.W.alike, PySem.W.alikeAll], fun x hx => by
  obtain ⟨i, _, rfl⟩ := List.mem_map.mp hx
  intro h
  cases h⟩
theorem okL_pr (ps : List (Int × Int)) : okL 59 (ps.map prD) = true := by
  induction ps with
  | nil => rfl
  | cons p ps ih =>
    show okL 59 (prD p :: ps.map prD) = true
    unfold okL
    rw [ih]
    rfl
theorem prP_inj {x y : Int × Int} (h : prP x = prP y) : x = y := by
  unfold prP at h
  injection h with h
  injection h with h1 h2
  injection h2 with h2 _
  injection h1 with h1
  injection h2 with h2
  exact Prod.ext h1 h2
theorem pickP {op : PyData → List PyData → PyData} {opF : Int × Int → List (Int × Int) → Int × Int} (he : ∀ xs x, op (prP x) (xs.map prP) = prP (opF x xs)) {p : Int × Int} {ps : List (Int × Int)} {Q : D → Prop} (h : Q (prD (opF p ps))) : mPick op [.lst ((p :: ps).map prD)] Q := by
  refine ⟨okL_pr (p :: ps), ?_, fun i d hd hi => ?_⟩
  · show PySem.W.AlikeAll (toPyL ((p :: ps).map prD))
    rw [toPyL_pr]
    exact alike_pr _
  · have hi' : (toPyL ((p :: ps).map prD))[i]? = some (op (prP p) (toPyL (ps.map prD))) := hi
    have hd' : ((p :: ps).map prD)[i]? = some d := hd
    rw [toPyL_pr, toPyL_pr, he, List.getElem?_map] at hi'
    rw [List.getElem?_map] at hd'
    cases hx : (p :: ps)[i]? with
    | none =>
      rw [hx] at hd'
      cases hd'
    | some z =>
      rw [hx] at hd' hi'
      cases hd'
      have ez : z = opF p ps := prP_inj (Option.some.inj hi')
      rw [ez]
      exact h
theorem maxP {ps : List (Int × Int)} {Q : D → Prop} (h0 : 0 < ps.length) (h : ∀ x ∈ ps, (∀ y ∈ ps, LeP y x) → Q (prD x)) : mMaxB [.lst (ps.map prD)] Q := by
  cases ps with
  | nil => cases h0
  | cons p ps => exact .inr (pickP (fun xs x => maxD_pr xs x) (h _ (maxF_top ps p).1 (maxF_top ps p).2))
theorem minP {ps : List (Int × Int)} {Q : D → Prop} (h0 : 0 < ps.length) (h : ∀ x ∈ ps, (∀ y ∈ ps, LeP x y) → Q (prD x)) : mMinB [.lst (ps.map prD)] Q := by
  cases ps with
  | nil => cases h0
  | cons p ps => exact .inr (pickP (fun xs x => minD_pr xs x) (h _ (minF_low ps p).1 (minF_low ps p).2))
end DL

set_option Elab.async false
set_option linter.all false
set_option maxRecDepth 100000
namespace DL
open PySem PySem.Spec PyProof.Rows L2
/-! ### a comprehension inside a comprehension -/
theorem lookup_relabelled {c : Str → NameKind → Bool} : ∀ (names : List (Str × NameKind)) (x : Str) (k : NameKind), names.lookup x = some k → (k = .cell ∨ k = .free) →
    (names.map fun (n, k) => if c n k = true then (n, NameKind.cell) else (n, k)).lookup x = some .cell ∨ (names.map fun (n, k) => if c n k = true then (n, NameKind.cell) else (n, k)).lookup x = some .free
  | [], x, k, h, _ => by cases h
  | (n, l) :: r, x, k, h, hk => by
    have ih := lookup_relabelled (c := c) r x k
    rw [List.map_cons]
    by_cases e : (x == n) = true
    · rw [List.lookup_cons, e] at h
      cases h
      by_cases hc : c n l = true
      · left
        show List.lookup x ((if c n l = true then (n, NameKind.cell) else (n, l)) :: _) = _
        rw [if_pos hc, List.lookup_cons, e]
      · show List.lookup x ((if c n l = true then (n, NameKind.cell) else (n, l)) :: _) = _ ∨ List.lookup x ((if c n l = true then (n, NameKind.cell) else (n, l)) :: _) = _
        rw [if_neg hc, List.lookup_cons, e]
        rcases hk with rfl | rfl
        · exact .inl rfl
        · exact .inr rfl
    · have e : (x == n) = false := by simpa using e
      rw [List.lookup_cons, e] at h
      have hh := ih h hk
      show List.lookup x ((if c n l = true then (n, NameKind.cell) else (n, l)) :: _) = _ ∨ List.lookup x ((if c n l = true then (n, NameKind.cell) else (n, l)) :: _) = _
      by_cases hc : c n l = true
      · rw [if_pos hc, List.lookup_cons, e]
        exact hh
      · rw [if_neg hc, List.lookup_cons, e]
        exact hh
theorem ok_nest {ι : Type} {X : ι → Cx} {sc0 scope : Scope} {own : List (Str × Nat)} {N : List Str} (hN : ∀ i, (X i).N = N) (h : blkC N sc0 scope own = true) : ∀ p, BlkOk (blkX X sc0 p).N (blkX X sc0 p).env.scope scope own := fun p => by
  have e : (blkX X sc0 p).N = N := hN p.1
  rw [e]
  have b := blkOk_by h
  refine ⟨b.kind, b.uniq, b.ix, fun y hy hf => ?_, b.own⟩
  rcases b.free y hy hf with z | z
  · exact lookup_relabelled (c := fun n k => (k == .free && (X p.1).env.scope.kind == .function && (X p.1).env.kindOf n == some .cell)) _ _ _ z (.inl rfl)
  · exact lookup_relabelled (c := fun n k => (k == .free && (X p.1).env.scope.kind == .function && (X p.1).env.kindOf n == some .cell)) _ _ _ z (.inr rfl)
/-! ### gcd -/
section
variable {ι : Type} {X : ι → Cx} {K : Frg} {e : Expr} {es : List Expr} {mr : M (List D)} {x : Str} {p pos : Pos} {id : String} {r : List V → Hp → VK → Prop}
def mGcd : List D → (D → Prop) → Prop
  | [.int a, .int b], Q => Q (.int ((Nat.gcd a.natAbs b.natAbs : Nat) : Int))
  | _, _ => False
theorem cs_gcd : CallS rGcd mGcd := by
  intro G H vs ds Q k g r q c
  match ds, r, q with
  | [.int a, .int b], ⟨v, _, e, h, w, _, e', h', e''⟩, q =>
    subst e
    subst e'
    cases e''
    cases h
    cases h'
    exact ⟨a, b, rfl, c _ H G (.int ((Nat.gcd a.natAbs b.natAbs : Nat) : Int)) (Step.refl _ _) g rfl q⟩
/-- a built-in function that a module's name stands for -/
theorem pd_callM {f : List D → (D → Prop) → Prop} (hc : ∀ i, CallR (X i) (.builtin id) r) (hs : CallS r f) (hg : ∀ i, Gl (X i) x) (hm : ∀ i, (X i).mg x = some (.builtin id)) (ha : PAB X (e :: es) mr)
    (hdb : (x == ("__debug__" : Str)) = false := by decide) (he : ∀ i, starEach (e :: es) (X i).env = (false, eval e (X i).env) :: starEach es (X i).env := by intro _; rfl)
    (hpl : ∀ i, (backTo pos (starEach es (X i).env)).any (·.1) = false := by intro _; rfl) : PD X (.Call (.Name x p) (e :: es) [] pos) (mCall f mr) := by
  obtain ⟨t, h1, h2⟩ := ha.ex
  exact ⟨_, fun i => pe_callBfun (hc i) (hg i) (hm i) (h1 i) hdb (he i) (hpl i), sem_cb hs h2⟩
end
/-! ### *range(..) in a display -/
section
variable {prog : Program} {w : World} {A : Around} {E : Value → Shared → Prop} {s : Shared}
theorem collect_range {Q : List Value → Shared → Prop} {r : Addr} {a b c : Int} {t u v : Tok} {n : Nat} (hh : A.handled = none) (hr : IsRange s.heap r a b c t u v) (hsmall : Builtin.Range.small a b c = true)
    (hn : Builtin.Range.rangeSize a b c = n) (hlen : n ≤ 2 ^ 24)
    (hQ : ∀ h' tk (acc' : Array Value), (∀ b o, s.heap.get? b = some o → h'.get? b = some o) → ItemsOf (fun i v => ∃ t, v = .int (a + i * c) t) acc' n → Q acc'.toList { s with heap := h', toks := tk }) :
    wpAny (model prog w) A (collect (.ref r)) Q E s := by
  unfold collect
  refine wpAny_bind (wpAny_runValue (codeAny_builtin F.entry_proto_collect ?_))
  rw [Around.under_plainId F.plain_proto_collect _]
  show wpAny _ A.in1 (newList [] >>= fun l => again (.builtin "list.__iadd__" ⟨[l, .ref r], []⟩)) _ _ s
  refine wpAny_bind (wpAny_newObj_type ?_)
  refine wpAny_pure ⟨plainId_quiet F.plain_list_iadd _, codeAny_builtin F.entry_list_iadd ?_⟩
  rw [Around.under_plainId F.plain_list_iadd _]
  have hS₁ : (s.heap.push { cls := .type "list", data := .seq ([] : List Value).toArray }).get? s.heap.objs.size = some { cls := .type "list", data := .seq ([] : List Value).toArray } := Heap.get?_push_size _ rfl
  show wpAny _ A.in1 (Builtin.List.listExtendWith (.ref s.heap.objs.size) (.ref r) (.ref s.heap.objs.size)) _ _ _
  refine wpAny_extend_range (R := fun r s' => match r with
    | .ok (.ret v) => wpAny (model prog w) A (match v with
      | .ref a => (do
        let o ← load a
        match o.data with
        | .seq xs _ => pure xs.toList
        | _ => unsupported "internal:collect")
      | _ => unsupported "internal:collect") Q E s'
    | .ok _ => False
    | .error e => E e s') (s := { s with heap := s.heap.push { cls := .type "list", data := .seq ([] : List Value).toArray } }) hh (Heap.get?_push_of_some _ hr) hsmall hn hlen s.heap.objs.size (.ref s.heap.objs.size) _ (by exact hS₁) fun h' tk acc' c' hk hS' hacc => ?_
  show wpAny _ A (load s.heap.objs.size >>= _) _ _ _
  refine wpAny_bind (wpAny_load hS' ?_)
  exact wpAny_pure (hQ h' tk acc' (fun b o e => hk b o (Nat.ne_of_lt (Heap.lt_size e)) (Heap.get?_push_of_some _ e)) hacc)
end
section
variable {X : Cx} {e : Expr} {es : List Expr} {p : Pos} {te : L2.St → Hp → (Int → Int → Hp → Prop) → Prop} {t : TA}
def tStarR (te : L2.St → Hp → (Int → Int → Hp → Prop) → Prop) (t : TA) : TA := fun σ H Q => te σ H fun a b H1 => RgOk a b ∧ t σ H1 fun ys H2 => Q (rgV a b ++ ys) H2
theorem pa_starR (hc : X.calm = true) (he : PRg X e te) (hr : PA X es t) (hs : starEach (.Starred e p :: es) X.env = (true, eval e X.env) :: starEach es X.env := by rfl) : PA X (.Starred e p :: es) (tStarR te t) := by
  refine ⟨fun pos pins s σ H Q I h => ?_⟩
  refine PySem.W.items_star (thn (he pins s σ H _ I h) fun v s1 ⟨r, a, b, t1, u1, v1, H1, ey, hr1, I1, ok, q⟩ => ?_) hs
  subst ey
  obtain ⟨b1, b2, b3, b4, b5⟩ := ok
  have hT : s1.TypeIs (.ref r) "range" := ⟨_, hr1, rfl⟩
  unfold PySem.W.StarOf notIterableAtAll
  refine wpAny_bind (wpAny_specialOf hT PySem.F.slot_range_iter.lookup (wpAny_pure ⟨rfl, ?_⟩))
  refine collect_range (n := (b - a).toNat) (I1.ok.hd hc) hr1 (small_one b1 b2 b3 b4) (rangeSize_nat a b) b5 fun h' tk acc hk hi => ?_
  have I2 : Inv X pins σ H1 { s1 with heap := h', toks := tk } := I1.kept hk
  exact thn (hr.run pos pins _ σ H1 _ I2 q) fun ws s3 ⟨vs, H3, I3, r3, q3⟩ => ⟨rgV a b ++ vs, H3, I3, (vals_rg hi).append r3, q3⟩
end
section
variable {ι : Type} {X : ι → Cx} {e : Expr} {es : List Expr} {p : Pos} {mg : En → (Int → Int → Prop) → Prop} {mr : M (List D)}
def aSR (mg : En → (Int → Int → Prop) → Prop) (mr : M (List D)) : M (List D) := fun en Q => mg en fun i j => RgOk i j ∧ mr en fun xs => Q (rgD i j ++ xs)
theorem pad_starR (hc : ∀ i, (X i).calm = true) (he : PRd X e mg) (hr : PAd X es mr) (hs : ∀ i, starEach (.Starred e p :: es) (X i).env = (true, eval e (X i).env) :: starEach es (X i).env := by intro _; rfl) : PAd X (.Starred e p :: es) (aSR mg mr) := by
  obtain ⟨t, h1, h2⟩ := he.ex
  obtain ⟨u, h3, h4⟩ := hr.ex
  refine ⟨tStarR t u, fun i => pa_starR (hc i) (h1 i) (h3 i) (hs i), fun B G en σ H Q k rl q c => h2 B G en σ H _ _ rl q fun i j H1 G1 s1 g1 q1 => ⟨q1.1, ?_⟩⟩
  have q1' : mr en _ := q1.2
  refine h4 B G1 en σ H1 _ _ (rl.step s1 g1) q1' fun ws H2 G2 ds s2 g2 r2 q2 => ?_
  exact c _ H2 G2 _ (s1.trans s2) g2 ((rgV_rep i j).append r2) q2
end
end DL

set_option Elab.async false
set_option linter.all false
set_option maxRecDepth 100000
namespace DL
open PySem PySem.Spec PyProof.Rows L2
/-! ### return [xs.pop(pick(source, len(xs))) for lap in range(len(xs))] -/
theorem app_get {α : Type} {l : List α} {x y : α} {i : Nat} (h : (l ++ [x])[i]? = some y) : l[i]? = some y ∨ (i = l.length ∧ y = x) := by
  by_cases e : i < l.length
  · rw [List.getElem?_append_left e] at h
    exact .inl h
  · rw [List.getElem?_append_right (Nat.le_of_not_lt e)] at h
    by_cases e2 : i = l.length
    · subst e2
      rw [Nat.sub_self] at h
      cases h
      exact .inr ⟨rfl, rfl⟩
    · rw [List.getElem?_eq_none (by rw [List.length_singleton]; omega)] at h
      cases h
/-- one more list of one's own, behind the names -/
theorem Rel.push {B : Bs} {G : Gh} {en : En} {σ : L2.St} {H : Hp} (r : Rel B G en σ H) {a : Addr} (n : H a = none) : Rel B G (en ++ [.own []]) (σ ++ [some (.ref a)]) (upd H a (.lst [])) where
  g := r.g.new n
  st := r.st.trans (Step.new n)
  len := by rw [List.length_append, List.length_append, r.len]; rfl
  sl := fun i s h => by
    rcases app_get h with h | ⟨e, e2⟩
    · obtain ⟨o, h1, h2⟩ := r.sl i s h
      refine ⟨o, ?_, h2.step (Step.new n)⟩
      rw [List.getElem?_append_left (List.getElem?_eq_some_iff.mp h1).1]
      exact h1
    · subst e
      subst e2
      refine ⟨some (.ref a), ?_, a, [], rfl, upd_same, r.g.fnone n, r.g.snone n, there_none r.st n, rfl⟩
      rw [r.len, List.getElem?_append_right (Nat.le_refl _), Nat.sub_self]
      rfl
  dis := fun i j xs ys b h1 h2 h3 h4 => by
    have old : ∀ (i : Nat) (xs : List D), en[i]? = some (.own xs) → σ[i]? = some (some (V.ref b)) → b ≠ a := fun i xs h h' e => by
      obtain ⟨o, k1, l, vs, k2, k3, _⟩ := r.sl i _ h
      rw [h'] at k1
      cases k1
      cases k2
      rw [e, n] at k3
      cases k3
    have sg : ∀ {i : Nat} {xs : List D}, en[i]? = some (.own xs) → (σ ++ [some (V.ref a)])[i]? = some (some (V.ref b)) → σ[i]? = some (some (V.ref b)) := fun {i xs} h h' => by
      rw [List.getElem?_append_left (by rw [← r.len]; exact (List.getElem?_eq_some_iff.mp h).1)] at h'
      exact h'
    have nw : ∀ {i : Nat}, i = en.length → (σ ++ [some (V.ref a)])[i]? = some (some (V.ref b)) → b = a := fun {i} e h' => by
      subst e
      rw [r.len, List.getElem?_append_right (Nat.le_refl _), Nat.sub_self] at h'
      cases h'
      rfl
    rcases app_get h1 with k1 | ⟨e1, _⟩ <;> rcases app_get h2 with k2 | ⟨e2, _⟩
    · exact r.dis i j xs ys b k1 k2 (sg k1 h3) (sg k2 h4)
    · exact absurd (nw e2 h4) (old i xs k1 (sg k1 h3))
    · exact absurd (nw e1 h3) (old j ys k2 (sg k2 h4))
    · rw [e1, e2]
theorem Rel.pre {B : Bs} {G : Gh} {en : En} {σ : L2.St} {H : Hp} {s : Slot} {o : Option V} (r : Rel B G (en ++ [s]) (σ ++ [o]) H) : Rel B G en σ H := by
  have l : en.length = σ.length := by
    have := r.len
    rw [List.length_append, List.length_append] at this
    simpa using this
  have up : ∀ {i : Nat} {x : Slot}, en[i]? = some x → (en ++ [s])[i]? = some x := fun {i x} h => by
    rw [List.getElem?_append_left (List.getElem?_eq_some_iff.mp h).1]
    exact h
  have up2 : ∀ {i : Nat} {x : Option V}, σ[i]? = some x → (σ ++ [o])[i]? = some x := fun {i x} h => by
    rw [List.getElem?_append_left (List.getElem?_eq_some_iff.mp h).1]
    exact h
  refine ⟨r.g, r.st, l, fun i x h => ?_, fun i j xs ys a h1 h2 h3 h4 => r.dis i j xs ys a (up h1) (up h2) (up2 h3) (up2 h4)⟩
  obtain ⟨p, h1, h2⟩ := r.sl i x (up h)
  refine ⟨p, ?_, h2⟩
  rw [List.getElem?_append_left (by rw [← l]; exact (List.getElem?_eq_some_iff.mp h).1)] at h1
  exact h1
/-- the things left, in any order -/
def sPerm (j s : Nat) : MS := fun F en => match en[j]? with
  | some (.own xs) => xs.length ≤ 1000000 ∧ en[s]? = some (.d .src) ∧ ∀ ys : List D, ys.Perm xs → F.rt (.lst ys)
  | _ => False
theorem ifyL {A B : Prop} (a : A) : if true = true then A else B := by
  rw [if_pos rfl]
  exact a
theorem erase_perm {α : Type} : ∀ (l : List α) (i : Nat) (h : i < l.length), (l[i] :: l.eraseIdx i).Perm l
  | x :: l, 0, _ => List.Perm.refl _
  | x :: l, i + 1, h => (List.Perm.swap _ _ _).trans ((erase_perm l i (Nat.lt_of_succ_lt_succ h)).cons x)
theorem seq_nat {i : Nat} {n : Nat} (h : i < n) : seqIndex? (i : Int) n = some i := by
  unfold seqIndex?
  have e : ¬ ((i : Int) < 0) := by omega
  have e2 : (decide ((0 : Int) ≤ (i : Int)) && decide ((i : Int) < (n : Int))) = true := by
    rw [Bool.and_eq_true, decide_eq_true_eq, decide_eq_true_eq]
    omega
  simp only [e, if_false]
  rw [if_pos e2]
  rfl
theorem wipe1_get {en : En} {v j : Nat} (h : j ≠ v) : (wipeE en [v])[j]? = en[j]? := by
  show (en.set v .u)[j]? = _
  rw [List.getElem?_set_ne (fun e => h e.symm)]
theorem gV_own {en : En} {i : Nat} {xs : List D} {Q : D → Prop} (h : en[i]? = some (.own xs)) (q : Q (.lst xs)) : gV i en Q := by
  unfold gV
  rw [h]
  exact q
theorem gD_at {en : En} {i : Nat} {d : D} {Q : D → Prop} (h : en[i]? = some (.d d)) (q : Q d) : gD i en Q := by
  unfold gD
  rw [h]
  exact q
section
variable {X : Cx} {x : Str} {p1 : Pos} {arg tg iter : Expr} {scope : Scope} {own : List (Str × Nat)} {pos rpos apos cpos : Pos}
theorem sd_perm (j v s : Nat) (hc : X.calm = true) (hN : X.N.Nodup) (hj : j ≠ v) (hs : s ≠ v) (ho : own.map (·.2) = [v])
    (hi : PId (un X) tg iter (mR1 (aC (mCall mLen (aC (gV j) aN)) aN)))
    (ok : BlkOk X.N X.env.scope scope own) (hg : PGd (blkX (un X) scope) (own.map (·.2)) tg (gN v))
    (ha : PD (blkX (un X) scope) arg (mCall pickM (aC (gD s) (aC (mCall mLen (aC (gV j) aN)) aN))))
    (hx : ∀ i, (blkX (un X) scope i).N[j]? = some x) (hv : ∀ i, Vis (blkX (un X) scope i).env.scope x)
    (hbase : ∀ i, attributeBase (.Name x p1) "pop" (blkX (un X) scope i).env (eval (.Name x p1) (blkX (un X) scope i).env) = eval (.Name x p1) (blkX (un X) scope i).env)
    (hfew : ∀ i, ((backTo cpos (starEach [arg] (blkX (un X) scope i).env)).all (fun x => !x.1) && (backToKw cpos (keywordEach [] (blkX (un X) scope i).env)).all (fun x => x.1.isSome) && decide ([arg].length + ([] : List Keyword).length + (if ([] : List Keyword).isEmpty then 0 else 1) < 30)) = true)
    (hline : (apos.endLine == cpos.line) = true) (hs1 : ∀ i, starEach [arg] (blkX (un X) scope i).env = (false, eval arg (blkX (un X) scope i).env) :: starEach [] (blkX (un X) scope i).env)
    (hf : ∀ y, foldedSetIterable iter X.env y = pure y)
    (hd : (x == ("__debug__" : Str)) = false := by decide) (hcd : (x == ("__classdict__" : Str)) = false := by decide) :
    SD X (.Return (some (.ListComp (.Call (.Attribute (.Name x p1) "pop" apos) [arg] [] cpos) [⟨tg, iter, [], 0⟩] scope pos)) rpos) (sPerm j s) := by
  obtain ⟨t1, a1, a2⟩ := hi.ex
  obtain ⟨t2, b1, b2⟩ := hg.ex
  obtain ⟨t4, d1, d2⟩ := ha.ex
  rw [ho] at b2
  refine ⟨_, ps_ret (pe_lc (te := tBM X.K "list" rPopAt (tVar j) (tCons t4 tNil)) hc hN (a1 ()) ok (fun s H C cl fp => b1 ((), s, H, C, cl, fp)) (fun s H C cl fp => pts_nil) (fun s H C cl fp => pe_bm PySem.F.plainAttrs_list PySem.F.slot_list_pop PySem.F.type_list_pop mt_popAt (pe_var (hx ((), s, H, C, cl, fp)) (hv ((), s, H, C, cl, fp)) hd hcd) (pa_cons (d1 ((), s, H, C, cl, fp)) pa_nil (hs1 ((), s, H, C, cl, fp))) (hbase ((), s, H, C, cl, fp)) (hfew ((), s, H, C, cl, fp)) hline (hs1 ((), s, H, C, cl, fp)) rfl) hf), fun B G en σ H F E r q k => ?_⟩
  unfold sPerm at q
  split at q
  · rename_i xs he
    obtain ⟨qn, qs, qp⟩ := q
    rw [ho]
    refine a2 B G en σ H (fun ys => ys = rng 0 xs.length) _ r ?_ fun J H1 G1 ys s1 g1 w1 q1 Dl hD => ?_
    · show gV j en _
      exact gV_own he ⟨⟨by omega, by omega⟩, rfl⟩
    subst q1
    have r1 := r.step s1 g1
    have hl : j < en.length := (List.getElem?_eq_some_iff.mp he).1
    obtain ⟨o, k1, l, vs0, k2, k3, k4, k5, k6, k7⟩ := r1.sl j _ he
    subst k2
    refine ⟨fun i mm Hc => i ≤ xs.length ∧ mm = xs.length - i ∧ ∃ Gc xc acc, Gle G1 Gc ∧ Rel B Gc (en.set j (.own xc) ++ [.own acc]) (σ ++ [some (.ref Dl)]) Hc ∧ acc.length = i ∧ xc.length = xs.length - i ∧ (acc ++ xc).Perm xs,
      ⟨xs.length, Nat.zero_le _, rfl, G1, xs, [], Gle.refl _, ?_, rfl, rfl, List.Perm.refl _⟩, fun i mm Hc hW => ?_⟩
    · have e : en.set j (.own xs) = en := by
        apply List.ext_getElem?
        intro n
        by_cases e : j = n
        · subst e
          rw [List.getElem?_set_self hl, he]
        · rw [List.getElem?_set_ne e]
      rw [e]
      exact r1.push hD
    obtain ⟨hle, hm, Gc, xc, acc, lc, rc, al, xl, pm⟩ := hW
    obtain ⟨wgo, wstop, wy⟩ := w1 i Gc Hc lc rc.g
    have hsl : ∀ {i : Nat} {y : Slot}, i ≠ j → en[i]? = some y → (en.set j (.own xc))[i]? = some y := fun {i y} h h' => by
      rw [List.getElem?_set_ne (fun e => h e.symm)]
      exact h'
    have hj' : (en.set j (.own xc))[j]? = some (.own xc) := List.getElem?_set_self hl
    have hlast : (en.set j (.own xc) ++ [.own acc])[en.length]? = some (.own acc) := by
      rw [List.getElem?_append_right (by rw [List.length_set]; exact Nat.le_refl _), List.length_set, Nat.sub_self]
      rfl
    have hσl : (σ ++ [some (V.ref Dl)])[en.length]? = some (some (.ref Dl)) := by
      rw [r1.len, List.getElem?_append_right (Nat.le_refl _), Nat.sub_self]
      rfl
    have hσj : (σ ++ [some (V.ref Dl)])[j]? = some (some (.ref l)) := by
      rw [List.getElem?_append_left (by rw [← r1.len]; exact hl)]
      exact k1
    have hjA : (en.set j (.own xc) ++ [.own acc])[j]? = some (.own xc) := by
      rw [List.getElem?_append_left (by rw [List.length_set]; exact hl)]
      exact hj'
    by_cases hlt : i < xs.length
    · refine .inr ⟨wgo (by rw [show (rng 0 xs.length).length = xs.length from by unfold rng; rw [List.length_map, List.length_range]]; exact hlt), fun H' => ∃ Gd xd acd, Gle G1 Gd ∧ Rel B Gd (en.set j (.own xd) ++ [.own acd]) (σ ++ [some (.ref Dl)]) H' ∧ acd.length = i + 1 ∧ xd.length = xs.length - (i + 1) ∧ (acd ++ xd).Perm xs, ?_, fun y H2 hy => ?_⟩
      · rintro H' ⟨Gd, xd, acd, c1, c2, c3, c4, c5⟩
        exact ⟨xs.length - (i + 1), by omega, by omega, rfl, Gd, xd, acd, c1, c2, c3, c4, c5⟩
      · have hx0 : (rng 0 xs.length)[i]? = some (.int (0 + (i : Int))) := by
          unfold rng
          rw [List.getElem?_map, List.getElem?_range hlt]
          rfl
        obtain ⟨G2, s2, g2, rx⟩ := wy y H2 _ hx0 hy
        have rc2 := rc.step s2 g2
        have rw2 : Rel B G2 (wipeE (en.set j (.own xc)) [v]) (L2.wipe σ [v]) H2 := rc2.pre.wipe [v]
        refine b2 B G2 _ _ H2 y _ (fun en3 => en3[j]? = some (.own xc) ∧ en3[s]? = some (.d .src)) _ rw2 rx ?_ fun en3 σ3 r3 w3 q3 => ⟨by rw [w3]; exact semf_lc.wipe_idem [v], ?_⟩
        · have hsj : s ≠ j := fun e => by
            rw [e, he] at qs
            cases qs
          constructor
          · rw [List.getElem?_set_ne (fun e => hj e.symm), wipe1_get hj]
            exact hj'
          · rw [List.getElem?_set_ne (fun e => hs e.symm), wipe1_get hs]
            exact hsl hsj qs
        · simp only [tYes, ↓reduceIte]
          obtain ⟨q3j, q3s⟩ := q3
          obtain ⟨o3, m1, l3, vs3, m2, m3, m4, m5, m6, m7⟩ := r3.sl j _ q3j
          subst m2
          refine ⟨.ref l3, m1, tyV_own (G := G2) m3, d2 B G2 en3 σ3 H2 (fun d => ∃ r : Nat, d = .int (r : Int) ∧ r < xc.length) _ r3 ?_ fun v4 H4 G4 d4 s4 g4 rp q4 => ?_⟩
          · show gD s en3 _
            refine gD_at q3s ?_
            show gV j en3 _
            refine gV_own q3j ?_
            refine ⟨Nat.lt_of_le_of_lt (m := 100) ?_ (by decide), fun r h0 h1 => ⟨r.toNat, by show D.int r = _; congr 1; omega, by omega⟩⟩
            by_cases e0 : ((xc.length : Int)).natAbs = 0
            · rw [e0]
              exact Nat.zero_le _
            · have := (Nat.log2_lt (n := ((xc.length : Int)).natAbs) (k := 100) e0).mpr (Nat.lt_of_le_of_lt (show _ ≤ 1000000 by omega) (by decide))
              omega
          · obtain ⟨rr, rfl, hrr⟩ := q4
            cases rp
            have rc4 := rc2.step s4 g4
            obtain ⟨o4, n1, l4, vs4, n2, n3, n4, n5, n6, n7⟩ := rc4.sl j _ hjA
            rw [hσj] at n1
            cases n1
            cases n2
            obtain ⟨o5, n1', l5, vs5, n2', n3', n4', n5', n6', n7'⟩ := rc4.sl en.length _ hlast
            rw [hσl] at n1'
            cases n1'
            cases n2'
            have e3 : l3 = l := by
              have hσk := hσj
              have w3' := congrArg (fun z : L2.St => z[j]?) w3
              have w4 : (σ3.set v none)[j]? = ((σ.set v none).set v none)[j]? := w3'
              rw [List.getElem?_set_ne (fun e => hj e.symm), List.getElem?_set_ne (fun e => hj e.symm), List.getElem?_set_ne (fun e => hj e.symm), m1] at w4
              have w5 : (σ ++ [some (V.ref Dl)])[j]? = σ[j]? := List.getElem?_append_left (by rw [← r1.len]; exact hl)
              rw [w5, ← w4] at hσk
              cases hσk
              rfl
            subst e3
            have hdx : xc[rr]? = some xc[rr] := List.getElem?_eq_getElem hrr
            obtain ⟨w5, hw5, rw5⟩ := n7.get hdx
            refine ⟨l3, vs4, (rr : Int), rr, w5, rfl, rfl, n3, by omega, by omega, seq_nat (by rw [← n7.length]; exact hrr), hw5, ?_⟩
            have M1 := rc4.mut hjA hσj (n7.eraseIdx rr)
            have hne : Dl ≠ l3 := fun e => by
              have := rc4.dis j en.length xc acc l3 hjA hlast hσj (by rw [hσl, e])
              omega
            have hlast2 : (List.set (en.set j (Slot.own xc) ++ [Slot.own acc]) j (Slot.own (xc.eraseIdx rr)))[en.length]? = some (Slot.own acc) := by
              rw [List.getElem?_set_ne (by omega)]
              exact hlast
            have M2 := M1.mut hlast2 hσl (n7'.append (.one rw5))
            refine ⟨vs5, by rw [upd_ne hne]; exact n3', ?_, G4, xc.eraseIdx rr, acc ++ [xc[rr]], lc.trans (s2.le.trans s4.le), ?_, ?_, ?_, ?_⟩
            · have sl : (sizeLine : Nat) = 16777216 := rfl
              rw [← n7'.length]
              omega
            · have e : List.set (List.set (en.set j (Slot.own xc) ++ [Slot.own acc]) j (Slot.own (xc.eraseIdx rr))) en.length (Slot.own (acc ++ [xc[rr]])) = en.set j (Slot.own (xc.eraseIdx rr)) ++ [Slot.own (acc ++ [xc[rr]])] := by
                rw [List.set_append_left _ _ (by rw [List.length_set]; exact hl), List.set_set, List.set_append_right _ _ (by rw [List.length_set]; exact Nat.le_refl _), List.length_set, Nat.sub_self]
                rfl
              rw [e] at M2
              exact M2
            · rw [List.length_append, al]
              rfl
            · rw [List.length_eraseIdx_of_lt hrr]
              omega
            · refine List.Perm.trans ?_ pm
              rw [List.append_assoc]
              refine List.Perm.append_left acc ?_
              exact erase_perm xc rr hrr
    · have hi : xs.length ≤ i := Nat.le_of_not_lt hlt
      have e0 : xc = [] := List.length_eq_zero_iff.mp (by omega)
      subst e0
      rw [List.append_nil] at pm
      obtain ⟨o5, n1', l5, vs5, n2', n3', n4', n5', n6', n7'⟩ := rc.sl en.length _ hlast
      rw [hσl] at n1'
      cases n1'
      cases n2'
      refine .inl ⟨wstop (by rw [show (rng 0 xs.length).length = xs.length from by unfold rng; rw [List.length_map, List.length_range]]; exact hi), ?_⟩
      exact k.rt (Gc.put Dl (.lst vs5)) _ Hc (.lst acc) (rc.st.put n6' n4') (rc.g.freeze n3' n4' n5') ⟨Dl, vs5, rfl, upd_same, n7'.mono (Gle.put n4')⟩ (qp acc pm)
  · exact q.elim
end
end DL

set_option Elab.async false
set_option linter.all false
set_option maxRecDepth 100000
namespace DL
open PySem PySem.Spec PyProof.Rows L2
/-! ### [e for x in xs for y in ys if t]: x, y names -/
/-- the turns of the inner loop -/
def lcS (en : En) (v : Nat) (mt : M Bool) (me : M D) : List D → List D → (List D → Prop) → Prop
  | [], acc, Q => Q acc
  | x :: xs, acc, Q => mt (en.set v (.d x)) fun b => if b = true then me (en.set v (.d x)) fun d => acc.length < sizeLine ∧ lcS en v mt me xs (acc ++ [d]) Q else lcS en v mt me xs acc Q
def lcL2 (en : En) (v w : Nat) (mi : M (List D)) (mt : M Bool) (me : M D) : List D → List D → (List D → Prop) → Prop
  | [], acc, Q => Q acc
  | x :: xs, acc, Q => mi (en.set v (.d x)) fun ys => lcS ((en.set v (.d x)).set w .u) w mt me ys acc fun acc' => lcL2 en v w mi mt me xs acc' Q
def mLc2 (v w : Nat) (mi mi1 : M (List D)) (mt : M Bool) (me : M D) : M (List D) := fun en Q => mi en fun xs => lcL2 (wipeE en [v, w]) v w mi1 mt me xs [] Q
theorem semf_lc2 {wi wi1 : TI} {tt : TT} {te : TE} {v w : Nat} {mi mi1 : M (List D)} {mt : M Bool} {me : M D} (hi : SemI wi mi) (hi1 : SemI wi1 mi1) (ht : SemT tt mt) (he : Sem te me) :
    SemF (tLc2 wi (gName v) tYes wi1 (gName w) tt te [v, w] [w]) (mLc2 v w mi mi1 mt me) := by
  intro B G en σ H Q k r q c
  refine hi B G en σ H _ _ r q fun J H1 G1 xs s1 g1 w1 q1 Dl hD => ?_
  have r1 := r.step s1 g1
  refine ⟨fun i mm Hc => i ≤ xs.length ∧ mm = xs.length - i ∧ ∃ Gc acc ws, Step G1 H1 Gc Hc ∧ GRel Gc Hc ∧ Hc Dl = some (.lst ws) ∧ Gc.F Dl = none ∧ ¬ Gc.isS Dl ∧ RepL Gc acc ws ∧ lcL2 (wipeE en [v, w]) v w mi1 mt me (xs.drop i) acc Q,
    ⟨xs.length, Nat.zero_le _, rfl, G1, [], [], Step.new hD, g1.new hD, upd_same, g1.fnone hD, g1.snone hD, rfl, q1⟩, fun i mm Hc hW => ?_⟩
  obtain ⟨hle, hm, Gc, acc, ws, sc, gc, hDl, nf, ns, ra, hq⟩ := hW
  obtain ⟨wgo, wstop, wy⟩ := w1 i Gc Hc sc.le gc
  by_cases hlt : i < xs.length
  · refine .inr ⟨wgo hlt, fun H' => ∃ Gd acc' ws', Step G1 H1 Gd H' ∧ GRel Gd H' ∧ H' Dl = some (.lst ws') ∧ Gd.F Dl = none ∧ ¬ Gd.isS Dl ∧ RepL Gd acc' ws' ∧ lcL2 (wipeE en [v, w]) v w mi1 mt me (xs.drop (i + 1)) acc' Q, ?_, fun x H2 hy => ?_⟩
    · rintro H' ⟨Gd, acc', ws', a1, a2, a3, a4, a5, a6, a7⟩
      exact ⟨xs.length - (i + 1), by omega, by omega, rfl, Gd, acc', ws', a1, a2, a3, a4, a5, a6, a7⟩
    · have hx : xs[i]? = some xs[i] := List.getElem?_eq_getElem hlt
      obtain ⟨G2, s2, g2, rx⟩ := wy x H2 _ hx hy
      rw [List.drop_eq_getElem_cons hlt] at hq
      have sc2 := sc.trans s2
      have r2 : Rel B G2 ((wipeE en [v, w]).set v (.d xs[i])) ((L2.wipe σ [v, w]).set v (some x)) H2 := ((r1.step sc2 g2).wipe [v, w]).set v rx
      refine ⟨by rw [wipe_set (by simp)]; exact semf_lc.wipe_idem [v, w], ?_⟩
      simp only [tYes, ↓reduceIte]
      have hDl2 : H2 Dl = some (.lst ws) := s2.keep _ _ hDl ns
      have nf2 : G2.F Dl = none := s2.nof _ _ hDl nf
      have ns2 : ¬ G2.isS Dl := s2.nos _ _ hDl ns
      have hq' : mi1 ((wipeE en [v, w]).set v (.d xs[i])) fun ys => lcS (((wipeE en [v, w]).set v (.d xs[i])).set w .u) w mt me ys acc fun acc' => lcL2 (wipeE en [v, w]) v w mi1 mt me (xs.drop (i + 1)) acc' Q := hq
      refine hi1 B G2 _ _ H2 _ _ r2 hq' fun J1 H4 G4 ys s4 g4 w4 q4 => ?_
      have sc4 := sc2.trans s4
      refine ⟨fun j kk Hj => j ≤ ys.length ∧ kk = ys.length - j ∧ ∃ Gj accj wsj, Step G1 H1 Gj Hj ∧ Gle G4 Gj ∧ GRel Gj Hj ∧ Hj Dl = some (.lst wsj) ∧ Gj.F Dl = none ∧ ¬ Gj.isS Dl ∧ RepL Gj accj wsj ∧ lcS (((wipeE en [v, w]).set v (.d xs[i])).set w .u) w mt me (ys.drop j) accj fun acc' => lcL2 (wipeE en [v, w]) v w mi1 mt me (xs.drop (i + 1)) acc' Q,
        ⟨ys.length, Nat.zero_le _, rfl, G4, acc, ws, sc4, Gle.refl _, g4, s4.keep _ _ hDl2 ns2, s4.nof _ _ hDl2 nf2, s4.nos _ _ hDl2 ns2, ra.mono (s2.trans s4).le, q4⟩, fun j kk Hj hV => ?_⟩
      obtain ⟨jle, jm, Gj, accj, wsj, cj, lj, gj, dj, fj, nj, rj, qj⟩ := hV
      obtain ⟨vgo, vstop, vy⟩ := w4 j Gj Hj lj gj
      by_cases jlt : j < ys.length
      · refine .inr ⟨vgo jlt, fun H' => ∃ Gd acc' ws', Step G1 H1 Gd H' ∧ Gle G4 Gd ∧ GRel Gd H' ∧ H' Dl = some (.lst ws') ∧ Gd.F Dl = none ∧ ¬ Gd.isS Dl ∧ RepL Gd acc' ws' ∧ lcS (((wipeE en [v, w]).set v (.d xs[i])).set w .u) w mt me (ys.drop (j + 1)) acc' fun acc' => lcL2 (wipeE en [v, w]) v w mi1 mt me (xs.drop (i + 1)) acc' Q, ?_, fun y H5 hy5 => ?_⟩
        · rintro H' ⟨Gd, acc', ws', a1, a2, a3, a4, a5, a6, a7, a8⟩
          exact ⟨ys.length - (j + 1), by omega, by omega, rfl, Gd, acc', ws', a1, a2, a3, a4, a5, a6, a7, a8⟩
        · have hy0 : ys[j]? = some ys[j] := List.getElem?_eq_getElem jlt
          obtain ⟨G5, s5, g5, ry⟩ := vy y H5 _ hy0 hy5
          rw [List.drop_eq_getElem_cons jlt] at qj
          have c5 := cj.trans s5
          have rx5 : Rep G5 xs[i] x := rx.mono ((s4.le.trans lj).trans s5.le)
          have r5 : Rel B G5 ((((wipeE en [v, w]).set v (.d xs[i])).set w .u).set w (.d ys[j])) ((((L2.wipe σ [v, w]).set v (some x)).set w none).set w (some y)) H5 := ((((r1.step c5 g5).wipe [v, w]).set v rx5).setU w none).set w ry
          refine ⟨by rw [wipe_set (by simp)]; exact semf_lc.wipe_idem [w], ?_⟩
          have qj' : mt ((((wipeE en [v, w]).set v (.d xs[i])).set w .u).set w (.d ys[j])) fun b => if b = true then me ((((wipeE en [v, w]).set v (.d xs[i])).set w .u).set w (.d ys[j])) (fun d => accj.length < sizeLine ∧ lcS (((wipeE en [v, w]).set v (.d xs[i])).set w .u) w mt me (ys.drop (j + 1)) (accj ++ [d]) fun acc' => lcL2 (wipeE en [v, w]) v w mi1 mt me (xs.drop (i + 1)) acc' Q) else lcS (((wipeE en [v, w]).set v (.d xs[i])).set w .u) w mt me (ys.drop (j + 1)) accj fun acc' => lcL2 (wipeE en [v, w]) v w mi1 mt me (xs.drop (i + 1)) acc' Q := qj
          refine ht B G5 _ _ H5 _ _ r5 qj' fun b H6 G6 s6 g6 q6 => ?_
          have d5 : H5 Dl = some (.lst wsj) := s5.keep _ _ dj nj
          have f5 : G5.F Dl = none := s5.nof _ _ dj fj
          have n5 : ¬ G5.isS Dl := s5.nos _ _ dj nj
          have d6 : H6 Dl = some (.lst wsj) := s6.keep _ _ d5 n5
          have f6 : G6.F Dl = none := s6.nof _ _ d5 f5
          have n6 : ¬ G6.isS Dl := s6.nos _ _ d5 n5
          cases b with
          | true =>
            rw [if_pos rfl]
            have q6' : me ((((wipeE en [v, w]).set v (.d xs[i])).set w .u).set w (.d ys[j])) (fun d => accj.length < sizeLine ∧ lcS (((wipeE en [v, w]).set v (.d xs[i])).set w .u) w mt me (ys.drop (j + 1)) (accj ++ [d]) fun acc' => lcL2 (wipeE en [v, w]) v w mi1 mt me (xs.drop (i + 1)) acc' Q) := q6
            refine he B G6 _ _ H6 _ _ (r5.step s6 g6) q6' fun z H7 G7 d s7 g7 r7 q7 => ?_
            have d7 : H7 Dl = some (.lst wsj) := s7.keep _ _ d6 n6
            have f7 : G7.F Dl = none := s7.nof _ _ d6 f6
            have n7 : ¬ G7.isS Dl := s7.nos _ _ d6 n6
            have c7 := (c5.trans s6).trans s7
            have l7 := ((lj.trans s5.le).trans s6.le).trans s7.le
            have rj7 := rj.mono ((s5.trans s6).trans s7).le
            refine ⟨wsj, d7, by rw [← rj.length]; exact q7.1, G7, accj ++ [d], wsj ++ [z], ?_, l7, ?_, upd_same, f7, n7, rj7.append (.one r7), q7.2⟩
            · refine ⟨c7.f, c7.s, fun b o h n => ?_, fun b o h => ?_, c7.nof, c7.nos⟩
              · rw [upd_ne (ne_of_none h hD)]
                exact c7.keep b o h n
              · rw [upd_ne (ne_of_none h hD)]
                exact c7.there b o h
            · refine ⟨fun b u h => ?_, fun p hp => ⟨(g7.s p hp).1, (g7.s p hp).2.1, (g7.s p hp).2.2.1, (g7.s p hp).2.2.2.upd (fun e => n7 ⟨p, hp, .inl e.symm⟩) (fun e => n7 ⟨p, hp, .inr e.symm⟩)⟩⟩
              rw [upd_ne (ne_of_none h f7)]
              exact g7.f b u h
          | false =>
            rw [if_neg (by decide)]
            exact ⟨G6, accj, wsj, c5.trans s6, (lj.trans s5.le).trans s6.le, g6, d6, f6, n6, rj.mono (s5.trans s6).le, q6⟩
      · have jj : ys.length ≤ j := Nat.le_of_not_lt jlt
        rw [List.drop_eq_nil_of_le jj] at qj
        exact .inl ⟨vstop jj, Gj, accj, wsj, cj, gj, dj, fj, nj, rj, qj⟩
  · have hi : xs.length ≤ i := Nat.le_of_not_lt hlt
    rw [List.drop_eq_nil_of_le hi] at hq
    exact .inl ⟨wstop hi, c Dl ws Hc Gc acc (s1.trans sc) gc (there_none s1 hD) hDl nf ns ra hq⟩
section
variable {ι : Type} {X : ι → Cx} {tgx tgy : Str} {p1 p2 : Pos}
theorem pf_lc2 {elt iter iter1 : Expr} {ifs1 : List Expr} {scope : Scope} {own : List (Str × Nat)} {v w : Nat} {pos : Pos} {mi mi1 : M (List D)} {mt : M Bool} {me : M D} (ho : own.map (·.2) = [v, w]) (hN : ∀ i, (X i).N.Nodup) (ok : ∀ i, BlkOk (X i).N (X i).env.scope scope own)
    (hi : PId X (.Name tgx p1) iter mi) (hi1 : PId (blkX X scope) (.Name tgy p2) iter1 mi1) (ht : PTsd (blkX X scope) ifs1 mt) (he : PD (blkX X scope) elt me)
    (hnv : ∀ i, (blkX X scope i).N[v]? = some tgx := by intro _; rfl) (hlv : ∀ i, Loc (blkX X scope i).env.scope tgx := by intro _; first | exact Or.inl rfl | exact Or.inr rfl)
    (hfv : ∀ i, (blkX X scope i).fn tgx = true ∨ (blkX X scope i).env.scope.names.lookup tgx = some .local := by intro _; first | exact Or.inl rfl | exact Or.inr rfl)
    (hnw : ∀ i, (blkX X scope i).N[w]? = some tgy := by intro _; rfl) (hlw : ∀ i, Loc (blkX X scope i).env.scope tgy := by intro _; first | exact Or.inl rfl | exact Or.inr rfl)
    (hfw : ∀ i, (blkX X scope i).fn tgy = true ∨ (blkX X scope i).env.scope.names.lookup tgy = some .local := by intro _; first | exact Or.inl rfl | exact Or.inr rfl)
    (hc : ∀ i, (X i).calm = true := by intro _; rfl) (hs : ∀ i x, foldedSetIterable iter (X i).env x = pure x := by intro _ _; rfl) (hs1 : ∀ env x, foldedSetIterable iter1 env x = pure x := by intro _ _; rfl) :
    PF X (.ListComp elt [⟨.Name tgx p1, iter, [], 0⟩, ⟨.Name tgy p2, iter1, ifs1, 0⟩] scope pos) (mLc2 v w mi mi1 mt me) := by
  obtain ⟨t1, a1, a2⟩ := hi.ex
  obtain ⟨t2, b1, b2⟩ := hi1.ex
  obtain ⟨t3, c1, c2⟩ := ht.ex
  obtain ⟨t4, d1, d2⟩ := he.ex
  refine ⟨tLc2 t1 (gName v) tYes t2 (gName w) t3 t4 (own.map (·.2)) [w], fun i => pe_lc2 (hc i) (hN i) (a1 i) (ok i) (by rw [ho]; simp) (fun s H C cl fp => pg_name (hN i) (hnv (i, s, H, C, cl, fp)) (hlv (i, s, H, C, cl, fp)) (hfv (i, s, H, C, cl, fp))) (fun s H C cl fp => pts_nil) (fun s H C cl fp => b1 (i, s, H, C, cl, fp))
    (fun s H C cl fp => pg_name (hN i) (hnw (i, s, H, C, cl, fp)) (hlw (i, s, H, C, cl, fp)) (hfw (i, s, H, C, cl, fp))) (fun s H C cl fp => c1 (i, s, H, C, cl, fp)) (fun s H C cl fp => d1 (i, s, H, C, cl, fp)) (hs i) hs1, ?_⟩
  rw [ho]
  exact semf_lc2 a2 b2 c2 d2
end
/-! ### calls that only read a list of one's own, for an answer without parts -/
theorem RepB.mono {G G' : Gh} {H : Hp} (l : Gle G G') (e : G'.s = G.s) : ∀ {d : D} {v : V}, RepB G H d v → RepB G' H d v
  | .non, _, h => h
  | .bl _, _, h => h
  | .int _, _, h => h
  | .str _, _, h => h
  | .tup xs, v, h => Rep.mono (d := .tup xs) l h
  | .lst xs, v, ⟨a, vs, e1, h1, h2, h3⟩ => ⟨a, vs, e1, h1, fun z => h2 (by
    obtain ⟨p, hp, z⟩ := z
    exact ⟨p, by rw [← e]; exact hp, z⟩), h3.mono l⟩
  | .src, v, h => Rep.mono (d := .src) l h
  | .ty _, _, h => h
  | .dct ks xs, v, ⟨a, o, vs, e1, h1, h2, h3, h4⟩ => ⟨a, o, vs, e1, h1, fun z => h2 (by
    obtain ⟨p, hp, z⟩ := z
    exact ⟨p, by rw [← e]; exact hp, z⟩), h3, h4.mono l⟩
theorem RepBL.mono {G G' : Gh} {H : Hp} (l : Gle G G') (e : G'.s = G.s) : ∀ {ds : List D} {vs : List V}, RepBL G H ds vs → RepBL G' H ds vs
  | [], _, h => h
  | x :: xs, vs, ⟨v, r, e1, h1, h2⟩ => ⟨v, r, e1, h1.mono l e, RepBL.mono l e h2⟩
theorem freeze_one {G : Gh} {H : Hp} (g : GRel G H) {d : D} {v : V} (h : RepB G H d v) : ∃ G', Gle G G' ∧ GRel G' H ∧ G'.s = G.s ∧ Rep G' d v := by
  cases d with
  | lst xs =>
    obtain ⟨a, vs, e, h1, h2, h3⟩ := h
    subst e
    cases hf : G.F a with
    | none => exact ⟨G.put a (.lst vs), Gle.put hf, g.freeze h1 hf h2, rfl, a, vs, rfl, upd_same, h3.mono (Gle.put hf)⟩
    | some o =>
      have := g.f a o hf
      rw [h1] at this
      cases this
      exact ⟨G, Gle.refl _, g, rfl, a, vs, rfl, hf, h3⟩
  | dct ks xs =>
    obtain ⟨a, o, vs, e, h1, h2, h3, h4⟩ := h
    subst e
    cases hf : G.F a with
    | none => exact ⟨G.put a o, Gle.put hf, g.freeze h1 hf h2, rfl, a, o, vs, rfl, upd_same, h3, h4.mono (Gle.put hf)⟩
    | some o' =>
      have := g.f a o' hf
      rw [h1] at this
      cases this
      exact ⟨G, Gle.refl _, g, rfl, a, o, vs, rfl, hf, h3, h4⟩
  | non => exact ⟨G, Gle.refl _, g, rfl, h⟩
  | bl _ => exact ⟨G, Gle.refl _, g, rfl, h⟩
  | int _ => exact ⟨G, Gle.refl _, g, rfl, h⟩
  | str _ => exact ⟨G, Gle.refl _, g, rfl, h⟩
  | tup _ => exact ⟨G, Gle.refl _, g, rfl, h⟩
  | src => exact ⟨G, Gle.refl _, g, rfl, h⟩
  | ty _ => exact ⟨G, Gle.refl _, g, rfl, h⟩
theorem freeze_all {H : Hp} : ∀ {ds : List D} {vs : List V} {G : Gh}, GRel G H → RepBL G H ds vs → ∃ G', Gle G G' ∧ GRel G' H ∧ G'.s = G.s ∧ RepL G' ds vs
  | [], vs, G, g, h => ⟨G, Gle.refl _, g, rfl, h⟩
  | x :: xs, vs, G, g, ⟨v, r, e1, h1, h2⟩ => by
    obtain ⟨G1, l1, g1, e2, r1⟩ := freeze_one g h1
    obtain ⟨G2, l2, g2, e3, r2⟩ := freeze_all g1 (h2.mono l1 e2)
    exact ⟨G2, l1.trans l2, g2, e3.trans e2, v, r, e1, r1.mono l2, r2⟩
def flatF (f : List D → (D → Prop) → Prop) : List D → (D → Prop) → Prop := fun ds Q => f ds fun d => flatD d = true ∧ Q d
theorem rep_flat {G G' : Gh} : ∀ {d : D} {v : V}, flatD d = true → Rep G d v → Rep G' d v
  | .non, _, _, h => h
  | .bl _, _, _, h => h
  | .int _, _, _, h => h
  | .str _, _, _, h => h
section
variable {ι : Type} {X : ι → Cx} {K : Frg} {e : Expr} {es : List Expr} {mr : M (List D)} {x : Str} {p pos : Pos}
theorem pcallB {P : Program} {w : World} {mgl : Str → Option Value} {base : Heap} {k : Nat} {f : List D → (D → Prop) → Prop} (F : FnD P w K mgl base k x f) (hr : ∀ i, Room k (X i).A) (hG : ∀ i, (X i).A.guards = some []) (ha : PAB X (e :: es) mr)
    (h1 : ∀ i, (X i).prog = P := by intro _; rfl) (h2 : ∀ i, (X i).w = w := by intro _; rfl) (h3 : ∀ i, (X i).K = K := by intro _; rfl) (h4 : ∀ i, (X i).mg = mgl := by intro _; rfl) (h5 : ∀ i, (X i).base = base := by intro _; rfl) (hg : ∀ i, Gl (X i) x := by intro _; rfl)
    (hdb : (x == ("__debug__" : Str)) = false := by decide) (he : ∀ i, starEach (e :: es) (X i).env = (false, eval e (X i).env) :: starEach es (X i).env := by intro _; rfl) (hpl : ∀ i, (backTo pos (starEach es (X i).env)).any (·.1) = false := by intro _; rfl) :
    PD X (.Call (.Name x p) (e :: es) [] pos) (mCall (flatF f) mr) := by
  obtain ⟨t, a1, a2⟩ := ha.ex
  obtain ⟨fa, fd, ps, F1, F2, F3, F4⟩ := F.ex
  refine ⟨_, fun i => pe_callG (X := X i) (f := fa) (fd := fd) (ps := ps) (sp := SpD f) (by rw [h1, h2, h3, h4, h5]; exact F1) (hr i) (hG i) (hg i) (by rw [h4]; exact F2) (by rw [h3]; exact F3) (by rw [h3]; exact F4) (a1 i) hdb (he i) (hpl i), fun B G en σ H Q k r q c => ?_⟩
  refine a2 B G en σ H _ _ r q fun vs H1 G1 ds s1 g1 r1 q1 => ?_
  show SpD f (vs ++ []) H1 k E0
  rw [List.append_nil]
  obtain ⟨G2, l2, g2, e2, r2⟩ := freeze_all g1 r1
  refine ⟨G2, ds, fun d => flatD d = true ∧ Q d, g2, r2, q1, fun v H' G' d s g rp q' => ?_⟩
  have isS : ∀ b, ¬ G1.isS b → ¬ G2.isS b := fun b n ⟨p, hp, z⟩ => n ⟨p, by rw [← e2]; exact hp, z⟩
  refine c v H' G1 d (s1.trans ⟨fun _ _ h => h, fun _ h => h, fun b o h n => s.keep b o h (isS b n), s.there, fun _ _ _ h => h, fun _ _ _ h => h⟩) ⟨fun b u h => g.f b u (s.f b u (l2.f b u h)), fun p hp => ?_⟩ (rep_flat q'.1 rp) q'.2
  obtain ⟨z1, z2, z3, _⟩ := g1.s p hp
  exact ⟨z1, z2, z3, (g.s p (s.s p (l2.s p hp))).2.2.2⟩
end
end DL

set_option Elab.async false
set_option linter.all false
set_option maxRecDepth 100000
namespace DL
open PySem PySem.Spec PyProof.Rows L2
/-! ### <, <=, >, >= of alike data -/
def rCmpD (g : PyData → PyData → Bool) (K : Frg) : R2 := fun x y H Q => ∃ d e, Dp K H x d ∧ Dp K H y e ∧ PySem.W.alike d e = true ∧ d ≠ .none ∧ d.depth ≤ 60 ∧ Q (.bl (g d e)) H
def gLt (d e : PyData) : Bool := PySem.W.dataLt d e
def gLe (d e : PyData) : Bool := !PySem.W.dataLt e d
def gGt (d e : PyData) : Bool := PySem.W.dataLt e d
def gGe (d e : PyData) : Bool := !PySem.W.dataLt d e
section
variable {X : Cx} {K : Frg}
theorem op_ltD {k : Nat} (hr : Room k X.A) : OpR X (compareOp .Lt) (rCmpD gLt X.K) := by
  intro pins s σ H x y v u Q I rx ry h
  obtain ⟨d, e, hd, he, al, hn, hz, q⟩ := h
  obtain ⟨as, r1⟩ := Dp.reads I d x v hd rx
  obtain ⟨bs, r2⟩ := Dp.reads I e y u he ry
  have hu := hr.units
  exact PySem.W.lt_data r1 r2 al hn (by omega) ⟨.bl _, H, I, rfl, q⟩
theorem op_leD {k : Nat} (hr : Room k X.A) : OpR X (compareOp .LtE) (rCmpD gLe X.K) := by
  intro pins s σ H x y v u Q I rx ry h
  obtain ⟨d, e, hd, he, al, hn, hz, q⟩ := h
  obtain ⟨as, r1⟩ := Dp.reads I d x v hd rx
  obtain ⟨bs, r2⟩ := Dp.reads I e y u he ry
  have hu := hr.units
  exact PySem.W.le_data r1 r2 al hn (by omega) ⟨.bl _, H, I, rfl, q⟩
theorem op_gtD {k : Nat} (hr : Room k X.A) : OpR X (compareOp .Gt) (rCmpD gGt X.K) := by
  intro pins s σ H x y v u Q I rx ry h
  obtain ⟨d, e, hd, he, al, hn, hz, q⟩ := h
  obtain ⟨as, r1⟩ := Dp.reads I d x v hd rx
  obtain ⟨bs, r2⟩ := Dp.reads I e y u he ry
  have hu := hr.units
  exact PySem.W.gt_data r1 r2 al hn (by omega) ⟨.bl _, H, I, rfl, q⟩
theorem op_geD {k : Nat} (hr : Room k X.A) : OpR X (compareOp .GtE) (rCmpD gGe X.K) := by
  intro pins s σ H x y v u Q I rx ry h
  obtain ⟨d, e, hd, he, al, hn, hz, q⟩ := h
  obtain ⟨as, r1⟩ := Dp.reads I d x v hd rx
  obtain ⟨bs, r2⟩ := Dp.reads I e y u he ry
  have hu := hr.units
  exact PySem.W.ge_data r1 r2 al hn (by omega) ⟨.bl _, H, I, rfl, q⟩
end
def mCmpD (g : PyData → PyData → Bool) (a b : D) (Q : D → Prop) : Prop := okd 60 a = true ∧ okd 60 b = true ∧ PySem.W.alike (toPy a) (toPy b) = true ∧ isNon a = false ∧ Q (.bl (g (toPy a) (toPy b)))
theorem toPy_ne {a : D} (h : isNon a = false) (ho : okd 60 a = true) : toPy a ≠ .none := by
  intro e
  cases a with
  | non => cases h
  | bl _ => cases e
  | int _ => cases e
  | str _ => cases e
  | tup _ => cases e
  | lst _ => cases e
  | ty _ => cases ho
  | src => cases ho
  | dct _ _ => cases ho
theorem os_cmpD {g : PyData → PyData → Bool} {K : Frg} : OpS (rCmpD g K) (mCmpD g) := by
  intro G H x y dx dy Q k gg rx ry q c
  obtain ⟨o1, o2, al, hn, q⟩ := q
  exact ⟨toPy dx, toPy dy, RepB.dp gg o1 rx, RepB.dp gg o2 ry, al, toPy_ne hn o1, (okd_lay 60 dx o1).2, c _ H G (.bl (g (toPy dx) (toPy dy))) (Step.refl _ _) gg rfl q⟩
theorem os_or {r r' : R2} {m m' : D → D → (D → Prop) → Prop} (h : OpS r m) (h' : OpS r' m') : OpS (fun x y H Q => r x y H Q ∨ r' x y H Q) (fun a b Q => m a b Q ∨ m' a b Q) := by
  intro G H x y dx dy Q k gg rx ry q c
  exact q.elim (fun q => .inl (h G H x y dx dy Q k gg rx ry q c)) fun q => .inr (h' G H x y dx dy Q k gg rx ry q c)
def mLtB : D → D → (D → Prop) → Prop := fun a b Q => mLt a b Q ∨ mCmpD gLt a b Q
def mLeB : D → D → (D → Prop) → Prop := fun a b Q => mLe a b Q ∨ mCmpD gLe a b Q
def mGtB : D → D → (D → Prop) → Prop := fun a b Q => mGt a b Q ∨ mCmpD gGt a b Q
def mGeB : D → D → (D → Prop) → Prop := fun a b Q => mGe a b Q ∨ mCmpD gGe a b Q
def rLtB (K : Frg) : R2 := fun x y H Q => rI0 (fun i j => .bl (decide (i < j))) x y H Q ∨ rCmpD gLt K x y H Q
def rLeB (K : Frg) : R2 := fun x y H Q => rI0 (fun i j => .bl (decide (i ≤ j))) x y H Q ∨ rCmpD gLe K x y H Q
def rGtB (K : Frg) : R2 := fun x y H Q => rI0 (fun i j => .bl (decide (j < i))) x y H Q ∨ rCmpD gGt K x y H Q
def rGeB (K : Frg) : R2 := fun x y H Q => rI0 (fun i j => .bl (decide (j ≤ i))) x y H Q ∨ rCmpD gGe K x y H Q
section
variable {X : Cx} {K : Frg}
theorem os_ltB : OpS (rLtB K) mLtB := os_or os_lt os_cmpD
theorem os_leB : OpS (rLeB K) mLeB := os_or os_le os_cmpD
theorem os_gtB : OpS (rGtB K) mGtB := os_or os_gt os_cmpD
theorem os_geB : OpS (rGeB K) mGeB := os_or os_ge os_cmpD
theorem op_ltB (hK : X.K = K) {k : Nat} (hr : Room k X.A) : OpR X (compareOp .Lt) (rLtB K) := by
  subst hK
  exact op_lt.or (op_ltD hr)
theorem op_leB (hK : X.K = K) {k : Nat} (hr : Room k X.A) : OpR X (compareOp .LtE) (rLeB K) := by
  subst hK
  exact op_le.or (op_leD hr)
theorem op_gtB (hK : X.K = K) {k : Nat} (hr : Room k X.A) : OpR X (compareOp .Gt) (rGtB K) := by
  subst hK
  exact op_gt.or (op_gtD hr)
theorem op_geB (hK : X.K = K) {k : Nat} (hr : Room k X.A) : OpR X (compareOp .GtE) (rGeB K) := by
  subst hK
  exact op_ge.or (op_geD hr)
end
theorem or_same {p q : Prop} (h : q → p) : (p ∨ q) = p := propext ⟨fun k => k.elim id h, .inl⟩
section
variable {i j : Int} {Q : D → Prop}
theorem x_ltB : mLtB (.int i) (.int j) Q = Q (.bl (decide (i < j))) := or_same fun h => by
  have e : gLt (toPy (.int i)) (toPy (.int j)) = decide (i < j) := PySem.W.dataLt_int i j
  show Q (.bl (decide (i < j)))
  rw [← e]
  exact h.2.2.2.2
theorem x_leB : mLeB (.int i) (.int j) Q = Q (.bl (decide (i ≤ j))) := or_same fun h => by
  have e : gLe (toPy (.int i)) (toPy (.int j)) = decide (i ≤ j) := by
    show (!PySem.W.dataLt (.int j) (.int i)) = _
    rw [PySem.W.dataLt_int, ← decide_not, decide_eq_decide]
    omega
  show Q (.bl (decide (i ≤ j)))
  rw [← e]
  exact h.2.2.2.2
theorem x_gtB : mGtB (.int i) (.int j) Q = Q (.bl (decide (j < i))) := or_same fun h => by
  have e : gGt (toPy (.int i)) (toPy (.int j)) = decide (j < i) := PySem.W.dataLt_int j i
  show Q (.bl (decide (j < i)))
  rw [← e]
  exact h.2.2.2.2
theorem x_geB : mGeB (.int i) (.int j) Q = Q (.bl (decide (j ≤ i))) := or_same fun h => by
  have e : gGe (toPy (.int i)) (toPy (.int j)) = decide (j ≤ i) := by
    show (!PySem.W.dataLt (.int i) (.int j)) = _
    rw [PySem.W.dataLt_int, ← decide_not, decide_eq_decide]
    omega
  show Q (.bl (decide (j ≤ i)))
  rw [← e]
  exact h.2.2.2.2
end
end DL

set_option Elab.async false
set_option linter.all false
set_option maxRecDepth 100000
set_option maxHeartbeats 1000000
/-! zip of a tuple and a list, of a list and a tuple -/
namespace DL
open PySem PySem.Spec PyProof.Rows L2
open PySem.Sem (wp)
/-- what stands at l: a tuple (true), a list (false); its iterator -/
def SqB : Bool → Heap → Addr → Array Value → Prop
  | true, h, l, xs => h.IsTuple l xs
  | false, h, l, xs => h.IsList l xs
def ItB : Bool → Heap → Addr → Addr → Nat → Prop
  | true, h, i, l, k => h.IsTupleIter i l k
  | false, h, i, l, k => h.IsListIter i l k
theorem SqB.ext {t : Bool} {h h' : Heap} {a b : Addr} {xs : Array Value} (x : SqB t h a xs) (hs : Heap.ExtBut b h h') (hab : a ≠ b) : SqB t h' a xs := by
  cases t
  · exact Heap.IsList.extBut x hs hab
  · exact Heap.IsTuple.extBut x hs hab
theorem ItB.ext {t : Bool} {h h' : Heap} {a b l : Addr} {k : Nat} (x : ItB t h a l k) (hs : Heap.ExtBut b h h') (hab : a ≠ b) : ItB t h' a l k := by
  cases t
  · exact Heap.IsListIter.extBut x hs hab
  · exact Heap.IsTupleIter.extBut x hs hab
theorem ItB.at {t : Bool} {h h' : Heap} {a l : Addr} {k : Nat} (x : ItB t h a l k) (e : ∀ o, h.get? a = some o → h'.get? a = some o) : ItB t h' a l k := by
  cases t
  · exact Heap.IsListIter.at x e
  · exact Heap.IsTupleIter.at x e
theorem ItB.has {t : Bool} {h : Heap} {a l : Addr} {k : Nat} (x : ItB t h a l k) : ∃ o, h.get? a = some o ∧ ∃ fs, o.data = .fields fs := by
  cases t
  · obtain ⟨o, h1, _, h3⟩ := x
    exact ⟨o, h1, _, h3⟩
  · obtain ⟨o, h1, _, h3⟩ := x
    exact ⟨o, h1, _, h3⟩
section
variable {prog : Program} {w : World} {A : Around} {E : Value → Shared → Prop} {s : Shared}
theorem nextB_item {t : Bool} {it l : Addr} {i : Nat} {items : Array Value} {x : Value} {Q : Value → Shared → Prop} (hit : ItB t s.heap it l i)
    (hl : SqB t s.heap l items) (hx : items[i]? = some x)
    (hQ : ∀ h', ItB t h' it l (i + 1) → Heap.SameBut it s.heap h' → Q x { s with heap := h' }) :
    wpAny (model prog w) A (Builtin.SmallTypes.nextOf (.ref it)) Q E s := by
  cases t
  · exact wpAny_nextOf_list_item hit hl hx hQ
  · exact RZ.nextOf_tuple_item hit hl hx hQ
theorem nextB_end {t : Bool} {it l : Addr} {i : Nat} {items : Array Value} {Q : Value → Shared → Prop} (hh : A.handled = none)
    (hit : ItB t s.heap it l i) (hl : SqB t s.heap l items) (hx : items[i]? = none)
    (hE : ∀ h' e, Heap.ExtBut it s.heap h' → (∃ o, h'.get? e = some o ∧ o.cls = .type "StopIteration") → E (.ref e) { s with heap := h' }) :
    wpAny (model prog w) A (Builtin.SmallTypes.nextOf (.ref it)) Q E s := by
  cases t
  · exact wpAny_nextOf_list_end hh hit hl hx hE
  · exact RZ.nextOf_tuple_end hh hit hl hx hE
/-- a turn of a zip of two of either kind -/
theorem zipB_item {t1 t2 : Bool} {z TI TO i1 i2 l1 l2 : Addr} {k1 k2 : Nat} {xs ys : Array Value} {x y a b : Value} {Q : Value → Shared → Prop} (D : ZipApart z TI TO i1 i2 l1 l2)
    (hz : IsZip s.heap z TI TO .none) (hTI : IsPair s.heap TI (.ref i1) (.ref i2)) (hTO : IsPair s.heap TO a b)
    (h1 : ItB t1 s.heap i1 l1 k1) (h2 : ItB t2 s.heap i2 l2 k2) (hl1 : SqB t1 s.heap l1 xs) (hl2 : SqB t2 s.heap l2 ys) (hx : xs[k1]? = some x) (hy : ys[k2]? = some y)
    (hQ : ∀ h', IsZip h' z TI TO (rawInt s.heap.objs.size) → IsPair h' TO x y → ItB t1 h' i1 l1 (k1 + 1) → ItB t2 h' i2 l2 (k2 + 1) → IsPair h' s.heap.objs.size x y → h'.objs.size = s.heap.objs.size + 1 →
      (∀ c o, c ≠ z → c ≠ TO → c ≠ i1 → c ≠ i2 → s.heap.get? c = some o → h'.get? c = some o) → Q (.ref s.heap.objs.size) { s with heap := h' }) :
    wpAny (model prog w) A (Builtin.«zip.__next__» ⟨[.ref z], []⟩) (fun fin s' => ∃ v, fin = .done (.ret v) ∧ Q v s') E s := by
  show wpAny _ _ (field (.ref z) 2 >>= _) _ _ _
  refine wpAny_bind (wpAny_field hz rfl (x := .bool false) rfl ?_)
  show wpAny _ _ (field (.ref z) 3 >>= _) _ _ _
  refine wpAny_bind (wpAny_field hz rfl (x := .ref TI) rfl ?_)
  refine wpAny_bind (wpAny_seqItems hTI rfl ?_)
  show wpAny _ _ (Builtin.SmallTypes.ownedTupleIsFree (.ref z) >>= _) _ _ _
  refine wpAny_bind ?_
  unfold Builtin.SmallTypes.ownedTupleIsFree
  refine wpAny_bind (wpAny_field hz rfl (x := .none) rfl (wpAny_pure ?_))
  simp only [if_true]
  refine wpAny_bind (wpAny_rule ?_)
  refine wpAny_bind (wpAny_field hz rfl (x := .ref TO) rfl ?_)
  refine wpAny_bind (wpAny_setField_rec hz (by simp) fun g1 hz1 e1 => ?_)
  replace hz1 : IsZip g1 z TI TO .ellipsis := hz1
  refine wpAny_bind ?_
  simp only [List.zipIdx_cons, List.zipIdx_nil, List.forIn_cons, List.forIn_nil]
  refine wpAny_bind (wpAny_bind (wpAny_onRaise ?_))
  show wpAny _ _ (Builtin.SmallTypes.nextOf (.ref i1) >>= _) _ _ _
  refine wpAny_bind (nextB_item (h1.ext e1.extBut D.i1z) (hl1.ext e1.extBut D.l1z) hx fun g2 n1 e2 => wpAny_pure ?_)
  have p2 : IsPair g2 TO a b := e2.extBut _ _ D.TOi1 (e1.extBut _ _ D.TOz hTO)
  refine wpAny_bind (wpAny_seqItems p2 rfl ?_)
  refine wpAny_bind (wpAny_updateSeq_pair p2 fun g3 p3 e3 => ?_)
  replace p3 : IsPair g3 TO x b := p3
  refine wpAny_bind (wpAny_letGo (wpAny_pure ?_))
  refine wpAny_bind (wpAny_bind (wpAny_onRaise ?_))
  show wpAny _ _ (Builtin.SmallTypes.nextOf (.ref i2) >>= _) _ _ _
  refine wpAny_bind (nextB_item (((h2.ext e1.extBut D.i2z).ext e2.extBut D.i12.symm).ext e3.extBut D.TOi2.symm)
    (((hl2.ext e1.extBut D.l2z).ext e2.extBut D.l2i1).ext e3.extBut D.l2TO) hy fun g4 n2 e4 => wpAny_pure ?_)
  have p4 : IsPair g4 TO x b := e4.extBut _ _ D.TOi2 p3
  refine wpAny_bind (wpAny_seqItems p4 rfl ?_)
  refine wpAny_bind (wpAny_updateSeq_pair p4 fun g5 p5 e5 => ?_)
  replace p5 : IsPair g5 TO x y := p5
  refine wpAny_bind (wpAny_letGo (wpAny_pure (wpAny_pure ?_)))
  refine wpAny_bind (wpAny_seqItems p5 rfl ?_)
  refine wpAny_bind (wpAny_newTuple ?_)
  have hsz : g5.objs.size = s.heap.objs.size := by rw [e5.1, e4.1, e3.1, e2.1, e1.1]
  have z5 : IsZip g5 z TI TO .ellipsis := e5.extBut _ _ D.TOz.symm (e4.extBut _ _ D.i2z.symm (e3.extBut _ _ D.TOz.symm (e2.extBut _ _ D.i1z.symm hz1)))
  have k5 : ∀ c o, c ≠ z → c ≠ TO → c ≠ i1 → c ≠ i2 → s.heap.get? c = some o → g5.get? c = some o := fun c o c1 c2 c3 c4 e =>
    e5.extBut _ _ c2 (e4.extBut _ _ c4 (e3.extBut _ _ c2 (e2.extBut _ _ c3 (e1.extBut _ _ c1 e))))
  have n15 : ItB t1 g5 i1 l1 (k1 + 1) := ((n1.ext e3.extBut D.TOi1.symm).ext e4.extBut D.i12).ext e5.extBut D.TOi1.symm
  have n25 : ItB t2 g5 i2 l2 (k2 + 1) := n2.ext e5.extBut D.TOi2.symm
  have hzlt : z < g5.objs.size := Heap.lt_size z5
  show wpAny _ _ (Builtin.SmallTypes.ownedTupleHandOut (.ref z) (.ref g5.objs.size) >>= _) _ _ _
  refine wpAny_bind ?_
  unfold Builtin.SmallTypes.ownedTupleHandOut
  have z6 : IsZip (g5.push { cls := .type "tuple", data := .seq #[x, y] }) z TI TO .ellipsis := Heap.get?_push_of_some _ z5
  refine wpAny_bind (wpAny_setField_rec z6 (by simp) fun g7 z7 e7 => ?_)
  replace z7 : IsZip g7 z TI TO (rawInt g5.objs.size) := z7
  refine wpAny_setField_rec z7 (by simp) fun g8 z8 e8 => ?_
  replace z8 : IsZip g8 z TI TO (rawInt g5.objs.size) := z8
  have up : ∀ c o, c ≠ z → g5.get? c = some o → g8.get? c = some o := fun c o c1 e => e8.extBut _ _ c1 (e7.extBut _ _ c1 (Heap.get?_push_of_some _ e))
  have T8 : IsPair g8 g5.objs.size x y := e8.extBut _ _ (Nat.ne_of_gt hzlt) (e7.extBut _ _ (Nat.ne_of_gt hzlt) (Heap.get?_push_size _ rfl))
  have s8 : g8.objs.size = g5.objs.size + 1 := by rw [e8.1, e7.1, Heap.size_push]
  rw [hsz] at z8 T8 s8
  refine wpAny_pure ⟨_, rfl, ?_⟩
  show Q (.ref g5.objs.size) _
  rw [hsz]
  exact hQ g8 z8 (up _ _ D.TOz p5) (n15.at fun o e => up _ o D.i1z e) (n25.at fun o e => up _ o D.i2z e) T8 s8 fun c o c1 c2 c3 c4 e => up c o c1 (k5 c o c1 c2 c3 c4 e)
theorem zipB_end {t1 t2 : Bool} {z TI TO i1 i2 l1 l2 : Addr} {k1 k2 : Nat} {xs ys : Array Value} {a b : Value} {Q : PySem.Fin → Shared → Prop} (hh : A.handled = none) (D : ZipApart z TI TO i1 i2 l1 l2)
    (hz : IsZip s.heap z TI TO .none) (hTI : IsPair s.heap TI (.ref i1) (.ref i2)) (hTO : IsPair s.heap TO a b)
    (h1 : ItB t1 s.heap i1 l1 k1) (h2 : ItB t2 s.heap i2 l2 k2) (hl1 : SqB t1 s.heap l1 xs) (hl2 : SqB t2 s.heap l2 ys) (hend : xs[k1]? = none ∨ ys[k2]? = none)
    (hE : ∀ h' e, (∀ c o, c ≠ z → c ≠ TO → c ≠ i1 → c ≠ i2 → s.heap.get? c = some o → h'.get? c = some o) → (∃ o, h'.get? e = some o ∧ o.cls = .type "StopIteration") → E (.ref e) { s with heap := h' }) :
    wpAny (model prog w) A (Builtin.«zip.__next__» ⟨[.ref z], []⟩) Q E s := by
  show wpAny _ _ (field (.ref z) 2 >>= _) _ _ _
  refine wpAny_bind (wpAny_field hz rfl (x := .bool false) rfl ?_)
  show wpAny _ _ (field (.ref z) 3 >>= _) _ _ _
  refine wpAny_bind (wpAny_field hz rfl (x := .ref TI) rfl ?_)
  refine wpAny_bind (wpAny_seqItems hTI rfl ?_)
  show wpAny _ _ (Builtin.SmallTypes.ownedTupleIsFree (.ref z) >>= _) _ _ _
  refine wpAny_bind ?_
  unfold Builtin.SmallTypes.ownedTupleIsFree
  refine wpAny_bind (wpAny_field hz rfl (x := .none) rfl (wpAny_pure ?_))
  simp only [if_true]
  refine wpAny_bind (wpAny_rule ?_)
  refine wpAny_bind (wpAny_field hz rfl (x := .ref TO) rfl ?_)
  refine wpAny_bind (wpAny_setField_rec hz (by simp) fun g1 hz1 e1 => ?_)
  replace hz1 : IsZip g1 z TI TO .ellipsis := hz1
  refine wpAny_bind ?_
  simp only [List.zipIdx_cons, List.zipIdx_nil, List.forIn_cons, List.forIn_nil]
  refine wpAny_bind (wpAny_bind (wpAny_onRaise ?_))
  show wpAny _ _ (Builtin.SmallTypes.nextOf (.ref i1) >>= _) _ _ _
  cases hx : xs[k1]? with
  | none =>
    refine wpAny_bind (nextB_end hh (h1.ext e1.extBut D.i1z) (hl1.ext e1.extBut D.l1z) hx fun g2 e e2 he => ?_)
    obtain ⟨oe, hoe, hce⟩ := he
    have z2 : IsZip g2 z TI TO .ellipsis := e2 _ _ D.i1z.symm hz1
    have hez : e ≠ z := fun x => by subst x; rw [z2] at hoe; cases hoe; simp at hce
    exact wpAny_setField_rec z2 (by simp) fun g3 _ e3 => hE g3 e (fun c o c1 _ c3 _ x => e3.extBut _ _ c1 (e2 _ _ c3 (e1.extBut _ _ c1 x))) ⟨oe, e3.extBut _ _ hez hoe, hce⟩
  | some x =>
    have hy : ys[k2]? = none := by
      rcases hend with h | h
      · rw [hx] at h
        cases h
      · exact h
    refine wpAny_bind (nextB_item (h1.ext e1.extBut D.i1z) (hl1.ext e1.extBut D.l1z) hx fun g2 n1 e2 => wpAny_pure ?_)
    have p2 : IsPair g2 TO a b := e2.extBut _ _ D.TOi1 (e1.extBut _ _ D.TOz hTO)
    refine wpAny_bind (wpAny_seqItems p2 rfl ?_)
    refine wpAny_bind (wpAny_updateSeq_pair p2 fun g3 p3 e3 => ?_)
    refine wpAny_bind (wpAny_letGo (wpAny_pure ?_))
    refine wpAny_bind (wpAny_bind (wpAny_onRaise ?_))
    show wpAny _ _ (Builtin.SmallTypes.nextOf (.ref i2) >>= _) _ _ _
    refine wpAny_bind (nextB_end hh (((h2.ext e1.extBut D.i2z).ext e2.extBut D.i12.symm).ext e3.extBut D.TOi2.symm)
      (((hl2.ext e1.extBut D.l2z).ext e2.extBut D.l2i1).ext e3.extBut D.l2TO) hy fun g4 e e4 he => ?_)
    obtain ⟨oe, hoe, hce⟩ := he
    have z4 : IsZip g4 z TI TO .ellipsis := e4 _ _ D.i2z.symm (e3.extBut _ _ D.TOz.symm (e2.extBut _ _ D.i1z.symm hz1))
    have hez : e ≠ z := fun x => by subst x; rw [z4] at hoe; cases hoe; simp at hce
    exact wpAny_setField_rec z4 (by simp) fun g5 _ e5 => hE g5 e (fun c o c1 c2 c3 c4 x => e5.extBut _ _ c1 (e4 _ _ c4 (e3.extBut _ _ c2 (e2.extBut _ _ c3 (e1.extBut _ _ c1 x))))) ⟨oe, e5.extBut _ _ hez hoe, hce⟩
theorem pyNextB_item {t1 t2 : Bool} {z TI TO i1 i2 l1 l2 : Addr} {k1 k2 : Nat} {xs ys : Array Value} {x y a b : Value} {Q : Option Value → Shared → Prop} (D : ZipApart z TI TO i1 i2 l1 l2)
    (hz : IsZip s.heap z TI TO .none) (hTI : IsPair s.heap TI (.ref i1) (.ref i2)) (hTO : IsPair s.heap TO a b)
    (h1 : ItB t1 s.heap i1 l1 k1) (h2 : ItB t2 s.heap i2 l2 k2) (hl1 : SqB t1 s.heap l1 xs) (hl2 : SqB t2 s.heap l2 ys) (hx : xs[k1]? = some x) (hy : ys[k2]? = some y)
    (hQ : ∀ h', IsZip h' z TI TO (rawInt s.heap.objs.size) → IsPair h' TO x y → ItB t1 h' i1 l1 (k1 + 1) → ItB t2 h' i2 l2 (k2 + 1) → IsPair h' s.heap.objs.size x y → h'.objs.size = s.heap.objs.size + 1 →
      (∀ c o, c ≠ z → c ≠ TO → c ≠ i1 → c ≠ i2 → s.heap.get? c = some o → h'.get? c = some o) → Q (some (.ref s.heap.objs.size)) { s with heap := h' }) :
    wpAny (model prog w) A (pyNext (.ref z)) Q E s := by
  have hT : s.TypeIs (.ref z) "zip" := ⟨_, hz, rfl⟩
  unfold pyNext
  exact wpAny_bind (wpAny_attempt (wpAny_callSpecial?_slot (name := Str.ofString "__next__") hT F.slot_zip_next
    (wpAny_call_entry F.slot_zip_next hT F.entry_zip_next
      (zipB_item D hz hTI hTO h1 h2 hl1 hl2 hx hy fun h' a1 a2 a3 a4 a5 a6 a7 => wpAny_pure (hQ h' a1 a2 a3 a4 a5 a6 a7)) (F.args_zip_next_1 _))))
theorem pyNextB_end {t1 t2 : Bool} {z TI TO i1 i2 l1 l2 : Addr} {k1 k2 : Nat} {xs ys : Array Value} {a b : Value} {Q : Option Value → Shared → Prop} (hh : A.handled = none) (D : ZipApart z TI TO i1 i2 l1 l2)
    (hz : IsZip s.heap z TI TO .none) (hTI : IsPair s.heap TI (.ref i1) (.ref i2)) (hTO : IsPair s.heap TO a b)
    (h1 : ItB t1 s.heap i1 l1 k1) (h2 : ItB t2 s.heap i2 l2 k2) (hl1 : SqB t1 s.heap l1 xs) (hl2 : SqB t2 s.heap l2 ys) (hend : xs[k1]? = none ∨ ys[k2]? = none)
    (hQ : ∀ h', (∀ c o, c ≠ z → c ≠ TO → c ≠ i1 → c ≠ i2 → s.heap.get? c = some o → h'.get? c = some o) → Q none { s with heap := h' }) : wpAny (model prog w) A (pyNext (.ref z)) Q E s := by
  have hT : s.TypeIs (.ref z) "zip" := ⟨_, hz, rfl⟩
  unfold pyNext
  refine wpAny_bind (wpAny_attempt (wpAny_callSpecial?_slot (name := Str.ofString "__next__") hT F.slot_zip_next
    (wpAny_call_entry F.slot_zip_next hT F.entry_zip_next (zipB_end hh D hz hTI hTO h1 h2 hl1 hl2 hend fun h' e hk he => ?_) (F.args_zip_next_1 _))))
  obtain ⟨o, ho, hc⟩ := he
  refine wpAny_bind (wpAny_isInstance (T := "StopIteration") (b := true) ⟨o, ho, hc⟩ isSubtype_stop ?_)
  exact wpAny_pure (hQ _ hk)
end
/-! ### zip made anew -/
abbrev zwC (t : Bool) : String := if t = true then "tuple_iterator" else "list_iterator"
abbrev zw1 (t1 : Bool) (h : Heap) (l1 : Addr) : Heap := h.push { cls := .type (zwC t1), data := .fields #[.ref l1, .int 0 0] }
abbrev zw2 (t1 t2 : Bool) (h : Heap) (l1 l2 : Addr) : Heap := (zw1 t1 h l1).push { cls := .type (zwC t2), data := .fields #[.ref l2, .int 0 0] }
abbrev zw3 (t1 t2 : Bool) (h : Heap) (l1 l2 : Addr) : Heap := (zw2 t1 t2 h l1 l2).push { cls := .type "tuple", data := .seq #[.ref h.objs.size, .ref (zw1 t1 h l1).objs.size] }
abbrev zw4 (t1 t2 : Bool) (h : Heap) (l1 l2 : Addr) : Heap := (zw3 t1 t2 h l1 l2).push { cls := .type "tuple", data := .seq #[.none, .none] }
abbrev zw5 (t1 t2 : Bool) (h : Heap) (l1 l2 : Addr) : Heap := (zw4 t1 t2 h l1 l2).push { cls := .type "zip", data := .fields #[.none, .bool false, .bool false, .ref (zw2 t1 t2 h l1 l2).objs.size, .ref (zw3 t1 t2 h l1 l2).objs.size] }
theorem meets_zw_tl (l1 l2 : Addr) (xs ys : Array Value) :
    Meets (Builtin.«zip.__new__» ⟨[.type "zip", .ref l1, .ref l2], []⟩) (fun _ R s => s.heap.IsTuple l1 xs ∧ s.heap.IsList l2 ys ∧
      R (.ok (.ret (.ref (zw4 true false s.heap l1 l2).objs.size))) { s with heap := zw5 true false s.heap l1 l2 }) :=
  .of_wp fun prog w A R s h => by
    obtain ⟨hp, g, d, tk, os⟩ := s; obtain ⟨hl1, hl2, h⟩ := h
    have hsub := sub_zip
    have hL1 : Heap.IsTuple (Shared.heap ⟨hp, g, d, tk, os⟩) l1 xs := hl1
    have hL2 : Heap.IsList (Shared.heap ⟨hp.push { cls := .type "tuple_iterator", data := .fields #[.ref l1, .int 0 0] }, g, d, tk, os⟩) l2 ys := Heap.IsList.push hl2 _
    wp_walk using wpAny_pyIter_tuple hL1, wpAny_pyIter_list hL2
    exact ⟨_, rfl, h⟩
theorem meets_zw_lt (l1 l2 : Addr) (xs ys : Array Value) :
    Meets (Builtin.«zip.__new__» ⟨[.type "zip", .ref l1, .ref l2], []⟩) (fun _ R s => s.heap.IsList l1 xs ∧ s.heap.IsTuple l2 ys ∧
      R (.ok (.ret (.ref (zw4 false true s.heap l1 l2).objs.size))) { s with heap := zw5 false true s.heap l1 l2 }) :=
  .of_wp fun prog w A R s h => by
    obtain ⟨hp, g, d, tk, os⟩ := s; obtain ⟨hl1, hl2, h⟩ := h
    have hsub := sub_zip
    have hL1 : Heap.IsList (Shared.heap ⟨hp, g, d, tk, os⟩) l1 xs := hl1
    have hL2 : Heap.IsTuple (Shared.heap ⟨hp.push { cls := .type "list_iterator", data := .fields #[.ref l1, .int 0 0] }, g, d, tk, os⟩) l2 ys := Heap.IsTuple.push hl2 _
    wp_walk using wpAny_pyIter_list hL1, wpAny_pyIter_tuple hL2
    exact ⟨_, rfl, h⟩
theorem ItB.mk {t : Bool} {h : Heap} {a l : Addr} (e : h.get? a = some ({ cls := .type (zwC t), data := .fields #[.ref l, .int 0 0] } : Obj)) : ItB t h a l 0 := by
  cases t
  · exact ⟨_, e, rfl, rfl⟩
  · exact ⟨_, e, rfl, rfl⟩
section
variable {prog : Program} {w : World} {A : Around} {E : Value → Shared → Prop} {s : Shared}
theorem call_zw_of {t1 t2 : Bool} {l1 l2 : Addr} {xs ys : Array Value} {Q : Value → Shared → Prop}
    (mt : Meets (Builtin.«zip.__new__» ⟨[.type "zip", .ref l1, .ref l2], []⟩) (fun _ R s => SqB t1 s.heap l1 xs ∧ SqB t2 s.heap l2 ys ∧
      R (.ok (.ret (.ref (zw4 t1 t2 s.heap l1 l2).objs.size))) { s with heap := zw5 t1 t2 s.heap l1 l2 }))
    (hl1 : SqB t1 s.heap l1 xs) (hl2 : SqB t2 s.heap l2 ys)
    (h : ∀ h', IsZip h' (s.heap.objs.size + 4) (s.heap.objs.size + 2) (s.heap.objs.size + 3) .none → IsPair h' (s.heap.objs.size + 2) (.ref s.heap.objs.size) (.ref (s.heap.objs.size + 1)) →
      IsPair h' (s.heap.objs.size + 3) .none .none → ItB t1 h' s.heap.objs.size l1 0 → ItB t2 h' (s.heap.objs.size + 1) l2 0 → h'.objs.size = s.heap.objs.size + 5 →
      (∀ c o, s.heap.get? c = some o → h'.get? c = some o) → Q (.ref (s.heap.objs.size + 4)) { s with heap := h' }) :
    wpAny (model prog w) A (call (.type "zip") [.ref l1, .ref l2]) Q E s := by
  refine callType_new F.called_zip (by decide) (F.typeCall_zip_2 _ _) (F.newCall_zip_2 _ _) (fun obj => F.args_object_init_3 obj _ _) F.entry_zip_new mt ⟨hl1, hl2, ?_⟩
  have z1 : (zw1 t1 s.heap l1).objs.size = s.heap.objs.size + 1 := Heap.size_push ..
  have z2 : (zw2 t1 t2 s.heap l1 l2).objs.size = s.heap.objs.size + 2 := by rw [Heap.size_push, z1]
  have z3 : (zw3 t1 t2 s.heap l1 l2).objs.size = s.heap.objs.size + 3 := by rw [Heap.size_push, z2]
  have z4 : (zw4 t1 t2 s.heap l1 l2).objs.size = s.heap.objs.size + 4 := by rw [Heap.size_push, z3]
  have z5 : (zw5 t1 t2 s.heap l1 l2).objs.size = s.heap.objs.size + 5 := by rw [Heap.size_push, z4]
  have up : ∀ {h : Heap} {o o' : Obj} {c : Addr}, h.get? c = some o → (h.push o').get? c = some o := fun e => Heap.get?_push_of_some _ e
  have g5 : (zw5 t1 t2 s.heap l1 l2).get? (zw4 t1 t2 s.heap l1 l2).objs.size = some _ := Heap.get?_push_size _ rfl
  have g4 : (zw5 t1 t2 s.heap l1 l2).get? (zw3 t1 t2 s.heap l1 l2).objs.size = some _ := up (Heap.get?_push_size _ rfl)
  have g3 : (zw5 t1 t2 s.heap l1 l2).get? (zw2 t1 t2 s.heap l1 l2).objs.size = some _ := up (up (Heap.get?_push_size _ rfl))
  have g2 : (zw5 t1 t2 s.heap l1 l2).get? (zw1 t1 s.heap l1).objs.size = some _ := up (up (up (Heap.get?_push_size _ rfl)))
  have g1 : (zw5 t1 t2 s.heap l1 l2).get? s.heap.objs.size = some _ := up (up (up (up (Heap.get?_push_size _ rfl))))
  show _ ∧ _
  rw [z2, z3, z4] at g5
  rw [z1, z2] at g3
  rw [z3] at g4
  rw [z1] at g2
  rw [z4]
  exact ⟨⟨_, g5, rfl⟩, h _ g5 g3 g4 (ItB.mk g1) (ItB.mk g2) z5 fun c o x => up (up (up (up (up x))))⟩
theorem call_zw {t1 t2 : Bool} {l1 l2 : Addr} {xs ys : Array Value} {Q : Value → Shared → Prop}
    (hl1 : SqB t1 s.heap l1 xs) (hl2 : SqB t2 s.heap l2 ys)
    (h : ∀ h', IsZip h' (s.heap.objs.size + 4) (s.heap.objs.size + 2) (s.heap.objs.size + 3) .none → IsPair h' (s.heap.objs.size + 2) (.ref s.heap.objs.size) (.ref (s.heap.objs.size + 1)) →
      IsPair h' (s.heap.objs.size + 3) .none .none → ItB t1 h' s.heap.objs.size l1 0 → ItB t2 h' (s.heap.objs.size + 1) l2 0 → h'.objs.size = s.heap.objs.size + 5 →
      (∀ c o, s.heap.get? c = some o → h'.get? c = some o) → Q (.ref (s.heap.objs.size + 4)) { s with heap := h' }) :
    wpAny (model prog w) A (call (.type "zip") [.ref l1, .ref l2]) Q E s := by
  cases t1 <;> cases t2
  · exact call_zip_2 hl1 hl2 h
  · exact call_zw_of (t1 := false) (t2 := true) (xs := xs) (ys := ys) (meets_zw_lt l1 l2 xs ys) hl1 hl2 h
  · exact call_zw_of (t1 := true) (t2 := false) (xs := xs) (ys := ys) (meets_zw_tl l1 l2 xs ys) hl1 hl2 h
  · exact RZ.call_zipT hl1 hl2 h
end
/-! ### as a loop's things -/
def SqX : Bool → Frg → Hp → Addr → List V → Prop
  | true, K, H, a, xs => SqT K H a xs
  | false, K, H, a, xs => SqL K H a xs
section
variable {X : Cx} {pins : List (Addr × Obj)} {σ : L2.St} {H : Hp} {s : Shared}
theorem sqX_at {t : Bool} {a : Addr} {xs : List V} (I : Inv X pins σ H s) (h : SqX t X.K H a xs) : ∃ its : List Value, Vals xs its ∧ SqB t s.heap a its.toArray ∧ a < s.heap.objs.size := by
  cases t
  · obtain ⟨its, rv, p, _⟩ := I.list h
    exact ⟨its, rv, p.isList, p.lt⟩
  · obtain ⟨its, rv, p, _⟩ := I.tuple h
    obtain ⟨o, ho, _⟩ := id p
    exact ⟨its, rv, p, Heap.lt_size ho⟩
theorem sqX_inj {t : Bool} {a : Addr} {xs ys : List V} (I : Inv X pins σ H s) (h : SqX t X.K H a xs) (h' : SqX t X.K H a ys) : xs = ys := by
  cases t
  · exact I.list_inj h h'
  · exact I.tuple_inj h h'
end
def ItzX (t1 t2 : Bool) (K : Frg) (a b : Addr) : It :=
  ⟨fun i H => ∃ (xs ys : List V) (x y : V), SqX t1 K H a xs ∧ SqX t2 K H b ys ∧ xs[i]? = some x ∧ ys[i]? = some y,
    fun i H v H' => ∃ T x y, v = .ref T ∧ H T = none ∧ H' = upd H T (.tup [x, y]) ∧ (∀ xs, SqX t1 K H a xs → xs[i]? = some x) ∧ ∀ ys, SqX t2 K H b ys → ys[i]? = some y,
    fun i H => ∃ xs ys : List V, SqX t1 K H a xs ∧ SqX t2 K H b ys ∧ (xs.length ≤ i ∨ ys.length ≤ i)⟩
theorem turn_zw {t1 t2 : Bool} {P : Program} {w : World} {K : Frg} {elts : List Expr} {kk : Nat} {tpos : Pos} {a b z TI TO i1 i2 : Addr} (D : ZipApart z TI TO i1 i2 a b) :
    Turn P w K (.Tuple elts kk tpos) (ItzX t1 t2 K a b) [z, TI, TO, i1, i2] z (fun i h => IsZip h z TI TO .none ∧ IsPair h TI (.ref i1) (.ref i2) ∧ (∃ x y, IsPair h TO x y) ∧ ItB t1 h i1 a i ∧ ItB t2 h i2 b i) where
  mem := by simp
  obj := fun i h st c hc => by
    obtain ⟨hz, hTI, ⟨x, y, hTO⟩, h1, h2⟩ := st
    obtain ⟨o1, e1, f1, d1⟩ := h1.has
    obtain ⟨o2, e2, f2, d2⟩ := h2.has
    have e' : c = z ∨ c = TI ∨ c = TO ∨ c = i1 ∨ c = i2 := by simpa using hc
    rcases e' with q | q | q | q | q
    · rw [q]; exact ⟨_, hz, fun v q => nomatch q⟩
    · rw [q]; exact ⟨_, hTI, fun v q => nomatch q⟩
    · rw [q]; exact ⟨_, hTO, fun v q => nomatch q⟩
    · rw [q]; exact ⟨o1, e1, fun v q => by rw [d1] at q; cases q⟩
    · rw [q]; exact ⟨o2, e2, fun v q => by rw [d2] at q; cases q⟩
  keep := fun i h h' st k => by
    obtain ⟨hz, hTI, ⟨x, y, hTO⟩, h1, h2⟩ := st
    exact ⟨k z (by simp) _ hz, k TI (by simp) _ hTI, ⟨x, y, k TO (by simp) _ hTO⟩, h1.at fun o q => k i1 (by simp) o q, h2.at fun o q => k i2 (by simp) o q⟩
  item := by
    intro X hP hw hK hc i pins s σ H E I hf st hg
    subst hP hw hK
    obtain ⟨hz, hTI, ⟨x0, y0, hTO⟩, h1, h2⟩ := st
    obtain ⟨xs, ys, x, y, hqx, hqy, hx, hy⟩ := hg
    obtain ⟨its, rv, p, _⟩ := sqX_at I hqx
    obtain ⟨its2, rv2, p2, _⟩ := sqX_at I hqy
    obtain ⟨u, hu, ru⟩ := rv.get hx
    obtain ⟨u2, hu2, ru2⟩ := rv2.get hy
    have hzl : z < s.heap.objs.size := Heap.lt_size hz
    refine pyNextB_item D hz hTI hTO h1 h2 p p2 (x := u) (y := u2) (by simpa using hu) (by simpa using hu2) fun h' z' TO' h1' h2' hT hsz hk => ?_
    refine ⟨_, rfl, wpAny_letOwnedTupleGo_zip (s := { s with heap := h' }) z' fun h'' z'' sb => ?_⟩
    have hT2 : h''.get? s.heap.objs.size = some { cls := .type "tuple", data := .seq #[u, u2] } := (sb.2 _ (Nat.ne_of_gt hzl)).trans hT
    have new : ObjOk X.prog X.w (upd H s.heap.objs.size (.tup [x, y])) h'' s.heap.objs.size (.tup [x, y]) :=
      ⟨by show 2 ≤ sizeLine; decide, [u, u2], .cons ru (.cons ru2 .nil), ⟨_, hT2, rfl, _, rfl⟩⟩
    have I1 : Inv X pins σ (upd H s.heap.objs.size (.tup [x, y])) { s with heap := h'' } :=
      I.turnedNew (t' := s.toks) (ch := [z, TI, TO, i1, i2]) (fun c o hb q => (sb.2 c (fun q' => hb (by simp [q']))).trans (hk c o (fun q' => hb (by simp [q'])) (fun q' => hb (by simp [q'])) (fun q' => hb (by simp [q'])) (fun q' => hb (by simp [q'])) q)) hf (Nat.le_refl _) new
    refine ⟨.ref s.heap.objs.size, _, I1, rfl, ⟨_, x, y, rfl, I.hok.fresh (Nat.le_refl _), rfl, fun l hl => by rw [sqX_inj I hl hqx]; exact hx, fun l hl => by rw [sqX_inj I hl hqy]; exact hy⟩, ⟨z'', ?_, ⟨u, u2, ?_⟩, ?_, ?_⟩, fun c hcm => ?_⟩
    · exact (sb.2 _ D.TIz).trans (hk _ _ D.TIz D.TITO D.TIi1 D.TIi2 hTI)
    · exact (sb.2 _ D.TOz).trans TO'
    · exact h1'.at fun o q => (sb.2 _ D.i1z).trans q
    · exact h2'.at fun o q => (sb.2 _ D.i2z).trans q
    · have hlt : c < s.heap.objs.size := by
        have e' : c = z ∨ c = TI ∨ c = TO ∨ c = i1 ∨ c = i2 := by simpa using hcm
        rcases e' with q | q | q | q | q
        · rw [q]; exact hzl
        · rw [q]; exact Heap.lt_size hTI
        · rw [q]; exact Heap.lt_size hTO
        · rw [q]; obtain ⟨_, e1, _⟩ := h1.has; exact Heap.lt_size e1
        · rw [q]; obtain ⟨_, e2, _⟩ := h2.has; exact Heap.lt_size e2
      rw [upd_ne (Nat.ne_of_lt hlt)]
      exact (hf c hcm).1
  done := by
    intro X hP hw hK hc i pins s σ H E I hf st hg
    subst hP hw hK
    obtain ⟨hz, hTI, ⟨x0, y0, hTO⟩, h1, h2⟩ := st
    obtain ⟨xs, ys, hqx, hqy, hend⟩ := hg
    obtain ⟨its, rv, p, _⟩ := sqX_at I hqx
    obtain ⟨its2, rv2, p2, _⟩ := sqX_at I hqy
    have l1 := rv.length
    have l2 := rv2.length
    have he : its.toArray[i]? = none ∨ its2.toArray[i]? = none := by
      rcases hend with q | q
      · exact .inl (by simp; omega)
      · exact .inr (by simp; omega)
    exact pyNextB_end (I.ok.hd hc) D hz hTI hTO h1 h2 p p2 he fun h' hk => ⟨rfl, I.turnedL (t' := s.toks) (ch := [z, TI, TO, i1, i2]) (fun c o hb q =>
      hk c o (fun q' => hb (by simp [q'])) (fun q' => hb (by simp [q'])) (fun q' => hb (by simp [q'])) (fun q' => hb (by simp [q'])) q) hf⟩
  self := fun A i s Q E st h => wpAny_pyIter_zip st.1 h
def iZipX (K : Frg) (ta : TA) : TI := fun σ H R => ta σ H fun vs H1 => ∃ a b xs ys t1 t2, vs = [.ref a, .ref b] ∧ SqX t1 K H1 a xs ∧ SqX t2 K H1 b ys ∧ R (ItzX t1 t2 K a b) H1
theorem pi_zipX0 {X : Cx} {e e2 : Expr} {ta : TA} {p pos tpos : Pos} {elts : List Expr} {kk : Nat} (hg : Gl X "zip") (hm : X.mg "zip" = none) (ha : PA X [e, e2] ta)
    (hs : starEach [e, e2] X.env = (false, eval e X.env) :: starEach [e2] X.env) (hpl : (backTo pos (starEach [e2] X.env)).any (·.1) = false) :
    PI X (.Tuple elts kk tpos) (.Call (.Name "zip" p) [e, e2] [] pos) (iZipX X.K ta) := by
  refine ⟨fun pins s σ H R I h => ?_⟩
  refine Call_ (ld_blt I hg hm PyProof.Rows.boot_zip (PyProof.Rows.callWith_type1 (thn (ha.run pos pins s σ H _ I h) fun us s1 ⟨vs, H1, I1, r1, q1⟩ => ?_) hs hpl))
  obtain ⟨a, b, xs, ys, t1, t2, ex, hqx, hqy, q⟩ := q1
  subst ex
  cases r1 with
  | cons r rr =>
    cases rr with
    | cons r' rr =>
      cases rr
      cases r
      cases r'
      have fresh5 : ∀ c, c ∈ [s1.heap.objs.size + 4, s1.heap.objs.size + 2, s1.heap.objs.size + 3, s1.heap.objs.size, s1.heap.objs.size + 1] → FpOk X pins H1 c := fun c hcm => by
        have hle : s1.heap.objs.size ≤ c := by
          simp only [List.mem_cons, List.not_mem_nil, or_false] at hcm
          rcases hcm with e | e | e | e | e <;> rw [e] <;> first | exact Nat.le_refl _ | exact Nat.le_add_right _ _
        exact I1.fpOk hle (I1.hok.fresh hle)
      obtain ⟨its, rv, p1, lt1⟩ := sqX_at I1 hqx
      obtain ⟨its2, rv2, p2, lt2⟩ := sqX_at I1 hqy
      refine call_zw p1 p2 fun h' hz hTI hTO h1 h2 hsz hk => wpAny_pyIter_zip hz ?_
      have I2 : Inv X pins σ H1 { s1 with heap := h' } := I1.kept (t' := s1.toks) hk
      exact ⟨s1.heap.objs.size + 4, [s1.heap.objs.size + 4, s1.heap.objs.size + 2, s1.heap.objs.size + 3, s1.heap.objs.size, s1.heap.objs.size + 1], _, _, H1, rfl, I2, turn_zw (PySem.W.ktu_apart s1.heap.objs.size a b lt1 lt2), ⟨hz, hTI, ⟨_, _, hTO⟩, h1, h2⟩, fresh5, q⟩
/-! ### their meanings -/
theorem walk_zw {R : Gh → Hp → Prop} {K : Frg} {t1 t2 : Bool} {a b : Addr} {vs ws : List V} {xs ys : List D} (h : ∀ G1 H1, R G1 H1 → GRel G1 H1 → SqX t1 K H1 a vs ∧ RepL G1 xs vs ∧ SqX t2 K H1 b ws ∧ RepL G1 ys ws) : WalkR R (ItzX t1 t2 K a b) (zipD xs ys) := by
  intro i G1 H1 r g
  obtain ⟨h1, h2, h3, h4⟩ := h G1 H1 r g
  rw [zipD_len]
  refine ⟨fun hi => ?_, fun hi => ⟨vs, ws, h1, h3, by rw [← h2.length, ← h4.length]; omega⟩, fun x H2 d hd hy => ?_⟩
  · obtain ⟨v, hv, _⟩ := h2.get (List.getElem?_eq_getElem (show i < xs.length by omega))
    obtain ⟨w, hw, _⟩ := h4.get (List.getElem?_eq_getElem (show i < ys.length by omega))
    exact ⟨vs, ws, v, w, h1, h3, hv, hw⟩
  · obtain ⟨T, y, z, e1, n, e3, e4, e5⟩ := hy
    subst e1
    subst e3
    obtain ⟨dx, dy, hx, hy, e⟩ := zipD_get _ _ _ _ hd
    subst e
    obtain ⟨v, hv, rv⟩ := h2.get hx
    obtain ⟨w, hw, rw'⟩ := h4.get hy
    have e6 := e4 vs h1
    rw [hv] at e6
    cases e6
    have e7 := e5 ws h3
    rw [hw] at e7
    cases e7
    obtain ⟨s, g', rr⟩ := new_tup (ds := [dx, dy]) g n ⟨_, _, rfl, rv, _, _, rfl, rw', rfl⟩
    exact ⟨_, s, g', rr⟩
def sqOf : D → Option (List D)
  | .lst xs => some xs
  | .tup xs => some xs
  | _ => none
def zpX (x y : D) (QL : List D → Prop) : Prop := match sqOf x, sqOf y with | some xs, some ys => QL (zipD xs ys) | _, _ => False
def mZipB (m : M (List D)) : M (List D) := fun en Q => m en fun ds => match ds with
  | [x, y] => zpX x y Q
  | _ => False
theorem zpX_ex {x y : D} {QL : List D → Prop} (h : zpX x y QL) : ∃ xs ys, sqOf x = some xs ∧ sqOf y = some ys ∧ QL (zipD xs ys) := by
  unfold zpX at h
  cases hx : sqOf x with
  | none =>
    rw [hx] at h
    exact False.elim h
  | some xs =>
    cases hy : sqOf y with
    | none =>
      rw [hx, hy] at h
      exact False.elim h
    | some ys =>
      rw [hx, hy] at h
      exact ⟨xs, ys, rfl, rfl, h⟩
section
variable {K : Frg}
theorem sqX_rep {G1 : Gh} {H1 : Hp} {d : D} {v : V} {xs : List D} (g : GRel G1 H1) (h : Rep G1 d v) (e : sqOf d = some xs) :
    ∃ (t : Bool) (a : Addr) (ws : List V), v = .ref a ∧ SqX t K H1 a ws ∧ ∀ G2 H2, Gle G1 G2 → GRel G2 H2 → SqX t K H2 a ws ∧ RepL G2 xs ws := by
  cases d with
  | lst ys =>
    cases e
    obtain ⟨a, ws, e, k1, k2⟩ := h
    exact ⟨false, a, ws, e, SqL.of (g.f _ _ k1), fun G2 H2 l g2 => ⟨SqL.of (g2.f _ _ (l.f _ _ k1)), k2.mono l⟩⟩
  | tup ys =>
    cases e
    obtain ⟨a, ws, e, k1, k2⟩ := h
    exact ⟨true, a, ws, e, SqT.of (g.f _ _ k1), fun G2 H2 l g2 => ⟨SqT.of (g2.f _ _ (l.f _ _ k1)), k2.mono l⟩⟩
  | _ => cases e
theorem sqX_repB {G1 : Gh} {H1 : Hp} {d : D} {v : V} {xs : List D} (g : GRel G1 H1) (h : RepB G1 H1 d v) (e : sqOf d = some xs) :
    ∃ (t : Bool) (a : Addr) (ws : List V), v = .ref a ∧ SqX t K H1 a ws ∧ ∀ G2 H2, Step G1 H1 G2 H2 → GRel G2 H2 → SqX t K H2 a ws ∧ RepL G2 xs ws := by
  cases d with
  | lst ys =>
    cases e
    obtain ⟨a, ws, e, k1, ks, k2⟩ := h
    exact ⟨false, a, ws, e, SqL.of k1, fun G2 H2 l g2 => ⟨SqL.of (l.keep _ _ k1 ks), k2.mono l.le⟩⟩
  | tup ys =>
    cases e
    obtain ⟨a, ws, e, k1, k2⟩ := h
    exact ⟨true, a, ws, e, SqT.of (g.f _ _ k1), fun G2 H2 l g2 => ⟨SqT.of (g2.f _ _ (l.le.f _ _ k1)), k2.mono l.le⟩⟩
  | _ => cases e
end
section
variable {ι : Type} {X : ι → Cx} {K : Frg} {e e2 : Expr} {p pos tpos : Pos} {mr : M (List D)}
theorem pi_zipX {X : Cx} {elts : List Expr} {kk : Nat} {ta : TA} (hK : X.K = K) (hg : Gl X "zip") (hm : X.mg "zip" = none) (ha : PA X [e, e2] ta) (hs : starEach [e, e2] X.env = (false, eval e X.env) :: starEach [e2] X.env) (hpl : (backTo pos (starEach [e2] X.env)).any (·.1) = false) :
    PI X (.Tuple elts kk tpos) (.Call (.Name "zip" p) [e, e2] [] pos) (iZipX K ta) := by
  subst hK
  exact pi_zipX0 hg hm ha hs hpl
theorem pid_zipX {elts : List Expr} {kk : Nat} (hK : ∀ i, (X i).K = K) (hg : ∀ i, Gl (X i) "zip") (hm : ∀ i, (X i).mg "zip" = none) (ha : PAd X [e, e2] mr) (hs : ∀ i, starEach [e, e2] (X i).env = (false, eval e (X i).env) :: starEach [e2] (X i).env := by intro _; rfl)
    (hpl : ∀ i, (backTo pos (starEach [e2] (X i).env)).any (·.1) = false := by intro _; rfl) : PId X (.Tuple elts kk tpos) (.Call (.Name "zip" p) [e, e2] [] pos) (mZipB mr) := by
  obtain ⟨t, h1, h2⟩ := ha.ex
  refine ⟨_, fun i => pi_zipX (hK i) (hg i) (hm i) (h1 i) (hs i) (hpl i), fun B G en σ H Q k r q c => h2 B G en σ H _ _ r q fun vs H1 G1 ds s1 g1 r1 q1 => ?_⟩
  match ds, r1, q1 with
  | [d1, d2], ⟨v, _, e, h, w, _, e2, h', e'⟩, q1 =>
    subst e
    subst e2
    cases e'
    obtain ⟨xs, ys, o1, o2, q1⟩ := zpX_ex q1
    obtain ⟨t1, a, ws, e, k1, w1⟩ := sqX_rep (K := K) g1 h o1
    subst e
    obtain ⟨t2, a', ws', e, k1', w2⟩ := sqX_rep (K := K) g1 h' o2
    subst e
    exact ⟨a, a', ws, ws', t1, t2, rfl, k1, k1', c _ H1 G1 _ s1 g1 (walk_zw fun G2 H2 l g2 => ⟨(w1 G2 H2 l g2).1, (w1 G2 H2 l g2).2, (w2 G2 H2 l g2).1, (w2 G2 H2 l g2).2⟩) q1⟩
theorem pib_zipX {elts : List Expr} {kk : Nat} (hK : ∀ i, (X i).K = K) (hg : ∀ i, Gl (X i) "zip") (hm : ∀ i, (X i).mg "zip" = none) (ha : PAB X [e, e2] mr) (hs : ∀ i, starEach [e, e2] (X i).env = (false, eval e (X i).env) :: starEach [e2] (X i).env := by intro _; rfl)
    (hpl : ∀ i, (backTo pos (starEach [e2] (X i).env)).any (·.1) = false := by intro _; rfl) : PIB X (.Tuple elts kk tpos) (.Call (.Name "zip" p) [e, e2] [] pos) (mZipB mr) := by
  obtain ⟨t, h1, h2⟩ := ha.ex
  refine ⟨_, fun i => pi_zipX (hK i) (hg i) (hm i) (h1 i) (hs i) (hpl i), fun B G en σ H Q k r q c => h2 B G en σ H _ _ r q fun vs H1 G1 ds s1 g1 r1 q1 => ?_⟩
  match ds, r1, q1 with
  | [d1, d2], ⟨v, _, e, h, w, _, e2, h', e'⟩, q1 =>
    subst e
    subst e2
    cases e'
    obtain ⟨xs, ys, o1, o2, q1⟩ := zpX_ex q1
    obtain ⟨t1, a, ws, e, k1, w1⟩ := sqX_repB (K := K) g1 h o1
    subst e
    obtain ⟨t2, a', ws', e, k1', w2⟩ := sqX_repB (K := K) g1 h' o2
    subst e
    exact ⟨a, a', ws, ws', t1, t2, rfl, k1, k1', c _ H1 G1 _ s1 g1 (walk_zw fun G2 H2 l g2 => ⟨(w1 G2 H2 l g2).1, (w1 G2 H2 l g2).2, (w2 G2 H2 l g2).1, (w2 G2 H2 l g2).2⟩) q1⟩
end
section
variable {xs ys : List D} {QL : List D → Prop} {ma mb : M D} {en : En}
theorem zpX_ll : zpX (.lst xs) (.lst ys) QL = QL (zipD xs ys) := propext Iff.rfl
theorem zpX_tt : zpX (.tup xs) (.tup ys) QL = QL (zipD xs ys) := propext Iff.rfl
theorem zpX_tl : zpX (.tup xs) (.lst ys) QL = QL (zipD xs ys) := propext Iff.rfl
theorem zpX_lt : zpX (.lst xs) (.tup ys) QL = QL (zipD xs ys) := propext Iff.rfl
theorem x_mZipB : mZipB (aC ma (aC mb aN)) en QL = ma en fun x => mb en fun y => zpX x y QL := propext Iff.rfl
end
end DL

set_option Elab.async false
set_option linter.all false
set_option maxRecDepth 100000
namespace DL
open PySem PySem.Spec PyProof.Rows L2
/-! ### {} for ever, defs that call themselves -/
theorem new_emp {G : Gh} {H : Hp} (g : GRel G H) {p : Addr} (n : H p = none) :
    Step G H (G.put p (.dK [])) (upd H p (.dK [])) ∧ GRel (G.put p (.dK [])) (upd H p (.dK [])) ∧ Rep (G.put p (.dK [])) (.dct [] []) (.ref p) :=
  ⟨(Step.new n).put n (g.fnone n), (g.new n).freeze upd_same (g.fnone n) (g.snone n), p, .dK [], [], rfl, upd_same, .inl ⟨[], rfl, rfl, rfl⟩, rfl⟩
section
variable {ι : Type} {X : ι → Cx} {pos : Pos}
theorem pd_emp : PD X (.Dict [] [] pos) (mC (.dct [] [])) := by
  refine ⟨tDNewK, fun i => pe_dnewK, fun B G en σ H Q k r q c => fun p n => ?_⟩
  obtain ⟨s, g', rr⟩ := new_emp r.g n
  exact c _ _ _ _ s g' rr q
end
theorem fn_vac {P : Program} {w : World} {K : Frg} {mg : Str → Option Value} {base : Heap} {x qual : Str} {st : Stmt} {f : Addr} {fd : FuncData} {N ps : List Str} {k : Nat} (F : Fun K x qual st f fd) (S : FnScope N ps (defScope st)) :
    FnG P w K mg base (k + 1) f fd ps (SpD fun _ _ => False) :=
  fng_of F S (fun vs H Q E h => by
    obtain ⟨_, _, _, _, _, q, _⟩ := h
    exact q.elim) fun cdv A outer s H vs Q E hr hg h => by
    obtain ⟨_, _, _, _, _, q, _⟩ := h
    exact q.elim
end DL

set_option Elab.async false
set_option linter.all false
set_option maxRecDepth 100000
namespace DL
open PySem PySem.Spec PyProof.Rows L2
/-! ### repr of data that may hold empty dicts -/
mutual
inductive DpE (K : Frg) (H : Hp) : V → PyData → Prop
  | non : DpE K H .non .none
  | bl (b : Bool) : DpE K H (.bl b) (.bool b)
  | int (i : Int) : DpE K H (.int i) (.int i)
  | str (x : Str) : DpE K H (.str x) (.str x)
  | lst {a : Addr} {xs : List V} {ds : List PyData} : SqL K H a xs → DpEs K H xs ds → DpE K H (.ref a) (.list ds)
  | tup {a : Addr} {xs : List V} {ds : List PyData} : SqT K H a xs → DpEs K H xs ds → DpE K H (.ref a) (.tuple ds)
  | emp {a : Addr} : H a = some (.dK []) ∨ H a = some (.dT []) → DpE K H (.ref a) (.dict [])
inductive DpEs (K : Frg) (H : Hp) : List V → List PyData → Prop
  | nil : DpEs K H [] []
  | cons {v : V} {vs : List V} {d : PyData} {ds : List PyData} : DpE K H v d → DpEs K H vs ds → DpEs K H (v :: vs) (d :: ds)
end
section
variable {X : Cx} {pins : List (Addr × Obj)} {σ : L2.St} {H : Hp} {s : Shared}
theorem emp_at {a : Addr} (I : Inv X pins σ H s) (h : H a = some (.dK []) ∨ H a = some (.dT [])) : (a == sysModules) = false ∧ ∃ o es n, s.heap.get? a = some o ∧ o.cls = .type "dict" ∧ o.dict = none ∧ o.data = .dict es n ∧ es.toList = [] := by
  rcases h with h | h
  · obtain ⟨_, hs, vs, rel, dd⟩ := dk_of I.hok h
    cases rel
    obtain ⟨o, es, ep, h1, ex, h3, h4, h5, h6⟩ := dd
    refine ⟨hs, o, es, ep, h1, ex.1, ex.2.1, h3, ?_⟩
    generalize es.toList = l at h5 ⊢
    cases h5
    rfl
  · obtain ⟨_, hs, xs, rel, dd⟩ := dt_of I.hok h
    cases rel
    obtain ⟨o, es, ep, h1, ex, h3, h4, _⟩ := dd
    exact ⟨hs, o, es, ep, h1, ex.1, ex.2.1, h3, h4⟩
mutual
theorem DpE.rk {prog : Program} {w : World} (I : Inv X pins σ H s) : ∀ (d : PyData) (v : V) (u : Value), DpE X.K H v d → RelV v u → d.showable = true → d.shown.length ≤ sizeLine →
    (∃ as, Reads s.heap u d as) ∧ ∃ bs, ReadAtMost s.heap d.depth bs ∧ ReprK prog w bs s.heap d.depth u d.shown
  | .none, _, _, h, r, _, _ => by
    cases h
    cases r
    exact ⟨⟨_, Reads.none⟩, [], (fun _ h => nomatch h), by simp only [PyData.shown]; exact .of_is ReprIs.none _ _ _⟩
  | .bool b, _, _, h, r, _, _ => by
    cases h
    cases r
    exact ⟨⟨_, Reads.bool b⟩, [], (fun _ h => nomatch h), by simp only [PyData.shown]; exact .of_is (ReprIs.bool b) _ _ _⟩
  | .int i, _, _, h, r, hs, _ => by
    cases h
    obtain ⟨t, rfl⟩ := r
    exact ⟨⟨_, Reads.int i t⟩, [], (fun _ h => nomatch h), by simp only [PyData.shown]; exact .of_is (ReprIs.int t (by simpa [PyData.showable] using hs)) _ _ _⟩
  | .str x, _, _, h, r, _, hz => by
    cases h
    obtain ⟨t, rfl⟩ := r
    exact ⟨⟨_, Reads.str x t⟩, [], (fun _ h => nomatch h), by simp only [PyData.shown]; exact .of_is (ReprIs.str x t (by simpa only [PyData.shown] using hz)) _ _ _⟩
  | .list ds, _, _, h, r, hs, hz => by
    cases h with
    | lst hq ha =>
      cases r
      rename_i a xs
      obtain ⟨its, rv, ⟨o, n, ho, hc, hdn, hd⟩, _⟩ := I.list hq
      have hz' : (listText (PyData.shownAll ds)).length ≤ sizeLine := by simpa only [PyData.shown] using hz
      obtain ⟨⟨as, h4⟩, bs, hb, hk⟩ := DpEs.rk (prog := prog) (w := w) I ds _ its ha rv (by simpa [PyData.showable] using hs) (fun t ht => Nat.le_trans (listText_mem_le ht) hz')
      have rr : Reads s.heap (.ref a) (.list ds) _ := .list ho hc hd h4
      have hna : a ∉ bs := not_mem_of_deeper rr (by simp only [PyData.depth]; omega) hb
      refine ⟨⟨_, rr⟩, a :: bs, ReadAtMost.cons rr (by simp only [PyData.depth]; omega) hb, ?_⟩
      simp only [PyData.depth, PyData.shown]
      cases its with
      | nil =>
        cases h4
        simp only [PyData.shownAll, listText_nil]
        exact ReprK.listEmpty ho hc hd
      | cons x l => exact ReprK.list ho hc hd hna (by simpa using hk.length_eq) (fun i y e => hk.item i y (by simpa using e))
  | .tuple ds, _, _, h, r, hs, hz => by
    cases h with
    | tup hq ha =>
      cases r
      rename_i a xs
      obtain ⟨its, rv, ⟨o, ho, hc, n, hd⟩, _⟩ := I.tuple hq
      have hz' : (tupleText (PyData.shownAll ds)).length ≤ sizeLine := by simpa only [PyData.shown] using hz
      obtain ⟨⟨as, h4⟩, bs, hb, hk⟩ := DpEs.rk (prog := prog) (w := w) I ds _ its ha rv (by simpa [PyData.showable] using hs) (fun t ht => Nat.le_trans (tupleText_mem_le ht) hz')
      have rr : Reads s.heap (.ref a) (.tuple ds) _ := .tuple ho hc hd h4
      have hna : a ∉ bs := not_mem_of_deeper rr (by simp only [PyData.depth]; omega) hb
      refine ⟨⟨_, rr⟩, a :: bs, ReadAtMost.cons rr (by simp only [PyData.depth]; omega) hb, ?_⟩
      simp only [PyData.depth, PyData.shown]
      exact ReprK.tuple ho hc hd hna hk
  | .dict ds, _, _, h, r, hs, hz => by
    cases h with
    | emp hq =>
      cases r
      rename_i a
      obtain ⟨hsys, o, es, n, h1, h2, hdn, h3, he⟩ := emp_at I hq
      have r1 : ReadsAll s.heap (es.toList.map (·.key)) (([] : List (PyData × PyData)).map (·.1)) [] := by
        rw [he]
        exact .nil
      have r2 : ReadsAll s.heap (es.toList.map (·.val)) (([] : List (PyData × PyData)).map (·.2)) [] := by
        rw [he]
        exact .nil
      have rr : Reads s.heap (.ref a) (.dict []) _ := .dict h1 h2 h3 r1 r2
      refine ⟨⟨_, rr⟩, [a], ReadAtMost.cons rr (Nat.le_refl _) (fun _ h => nomatch h), ?_⟩
      simp only [PyData.depth, PyData.shown, PyData.shownKv]
      exact ReprK.dict (as := []) h1 h2 h3 hsys (fun h => nomatch h) (by rw [he]; exact .nil)
theorem DpEs.rk {prog : Program} {w : World} (I : Inv X pins σ H s) : ∀ (ds : List PyData) (vs : List V) (us : List Value), DpEs X.K H vs ds → Vals vs us → PyData.showableAll ds = true → (∀ t ∈ PyData.shownAll ds, t.length ≤ sizeLine) →
    (∃ as, ReadsAll s.heap us ds as) ∧ ∃ bs, ReadAtMost s.heap (PyData.depthAll ds) bs ∧ ReprAllK prog w bs s.heap (PyData.depthAll ds) us (PyData.shownAll ds)
  | [], _, _, h, r, _, _ => by
    cases h
    cases r
    exact ⟨⟨_, ReadsAll.nil⟩, [], (fun _ h => nomatch h), by simp only [PyData.shownAll]; exact .nil⟩
  | d :: ds, _, _, h, r, hs, hz => by
    cases h with
    | cons h1 h2 =>
      cases r with
      | cons r1 r2 =>
        have hs' : d.showable = true ∧ PyData.showableAll ds = true := by simpa [PyData.showableAll] using hs
        obtain ⟨⟨as, q1⟩, b1, hb1, k1⟩ := DpE.rk (prog := prog) (w := w) I d _ _ h1 r1 hs'.1 (hz _ (by simp only [PyData.shownAll]; exact List.mem_cons_self ..))
        obtain ⟨⟨as2, q2⟩, b2, hb2, k2⟩ := DpEs.rk (prog := prog) (w := w) I ds _ _ h2 r2 hs'.2 (fun t ht => hz t (by simp only [PyData.shownAll]; exact List.mem_cons_of_mem _ ht))
        refine ⟨⟨_, ReadsAll.cons q1 q2⟩, b1 ++ b2, ?_, ?_⟩
        · intro b hm
          simp only [PyData.depthAll]
          rcases List.mem_append.mp hm with hm | hm
          · obtain ⟨d', as', r', hd'⟩ := hb1 b hm
            exact ⟨d', as', r', Nat.le_trans hd' (Nat.le_max_left _ _)⟩
          · obtain ⟨d', as', r', hd'⟩ := hb2 b hm
            exact ⟨d', as', r', Nat.le_trans hd' (Nat.le_max_right _ _)⟩
        · simp only [PyData.depthAll, PyData.shownAll]
          exact .cons ((k1.more fun b hb => List.mem_append_left _ hb).level_le (Nat.le_max_left _ _)) (k2.more_le (fun b hb => List.mem_append_right _ hb) (Nat.le_max_right _ _))
end
end
theorem DpE.shows {X : Cx} {pins : List (Addr × Obj)} {σ : L2.St} {H : Hp} {s : Shared} {prog : Program} {w : World} {a : Addr} {d : PyData} (I : Inv X pins σ H s) (h : DpE X.K H (.ref a) d) (hs : d.showable = true) (hsz : d.shown.length ≤ sizeLine) :
    ∃ T idr, ShowsBy prog w s.heap a d T idr := by
  cases h with
  | lst hq ha =>
    rename_i xs ds
    obtain ⟨its, rv, ⟨o, n, ho, hc, hdn, hd⟩, _⟩ := I.list hq
    have hz' : (listText (PyData.shownAll ds)).length ≤ sizeLine := by simpa only [PyData.shown] using hsz
    obtain ⟨⟨as, h4⟩, bs, hb, hk⟩ := DpEs.rk (prog := prog) (w := w) I ds _ its ha rv (by simpa [PyData.showable] using hs) (fun t ht => Nat.le_trans (listText_mem_le ht) hz')
    have hna : a ∉ bs := not_mem_of_deeper (.list ho hc hd h4) (by simp only [PyData.depth]; omega) hb
    refine ⟨"list", "list.__repr__", F.slot_list_repr.toG, F.slot_list_str, F.slot_list_format, fun s' hk0 => ⟨o, hk0 _ _ ho, hc⟩, fun A E s' Q hg hu hk0 hQ => ?_⟩
    simp only [PyData.depth] at hu
    simp only [PyData.shown] at hQ
    cases its with
    | nil =>
      cases h4
      simp only [PyData.shownAll, listText_nil] at hQ
      exact call_list_repr_empty ⟨o, hk0 _ _ ho, hc⟩ (hk0 _ _ ho) hd (hQ s'.heap _ _ fun _ _ e => e)
    | cons x l => exact call_list_reprK ho hc hd hna (by simpa using hk.length_eq) (fun i y e => hk.item i y (by simpa using e)) hg (fun b _ => Clear.nil b) hu hk0 hQ hz'
  | tup hq ha =>
    rename_i xs ds
    obtain ⟨its, rv, ⟨o, ho, hc, n, hd⟩, _⟩ := I.tuple hq
    have hz' : (tupleText (PyData.shownAll ds)).length ≤ sizeLine := by simpa only [PyData.shown] using hsz
    obtain ⟨⟨as, h4⟩, bs, hb, hk⟩ := DpEs.rk (prog := prog) (w := w) I ds _ its ha rv (by simpa [PyData.showable] using hs) (fun t ht => Nat.le_trans (tupleText_mem_le ht) hz')
    have hna : a ∉ bs := not_mem_of_deeper (.tuple ho hc hd h4) (by simp only [PyData.depth]; omega) hb
    refine ⟨"tuple", "tuple.__repr__", F.slot_tuple_repr, F.slot_tuple_str, F.slot_tuple_format, fun s' hk0 => ⟨o, hk0 _ _ ho, hc⟩, fun A E s' Q hg hu hk0 hQ => ?_⟩
    simp only [PyData.depth] at hu
    simp only [PyData.shown] at hQ
    exact call_tuple_reprK ho hc hd hna hk hg (fun b _ => Clear.nil b) hu hk0 hQ hz'
  | emp hq =>
    obtain ⟨hsys, o, es, n, h1, h2, hdn, h3, he⟩ := emp_at I hq
    refine ⟨"dict", "dict.__repr__", F.slot_dict_repr, F.slot_dict_str, F.slot_dict_format, fun s' hk0 => ⟨o, hk0 _ _ h1, h2⟩, fun A E s' Q hg hu hk0 hQ => ?_⟩
    simp only [PyData.depth] at hu
    simp only [PyData.shown, PyData.shownKv] at hQ
    exact call_dict_reprK (as := []) h1 h2 h3 hsys (fun h => nomatch h) (by rw [he]; exact .nil) hg (fun b _ => Clear.nil b) hu hk0 hQ (by simpa only [PyData.shown, PyData.shownKv] using hsz)
theorem repr_shown {X : Cx} {pins : List (Addr × Obj)} {σ : L2.St} {H : Hp} {s : Shared} {Q : VK} {a : Addr} {d : PyData} (I : Inv X pins σ H s) (h : DpE X.K H (.ref a) d) (hs : d.showable = true) (hsz : d.shown.length ≤ sizeLine) (hG : X.A.guards = some []) (hu : X.A.units + (d.depth + 1) < cLine) (q : Q (.str d.shown) H) :
    wpAny (model X.prog X.w) X.A (call (.builtin "repr") [.ref a]) (EP X pins σ Q) X.xe s := by
  obtain ⟨T, idr, S⟩ := DpE.shows (prog := X.prog) (w := X.w) I h hs hsz
  exact call_repr_slot (by omega) (S.typeIs s fun _ _ e => e) S.slotRepr (S.call X.A.in1 X.xe s _ hG (by show X.A.units + 1 + d.depth < cLine; omega) (fun _ _ e => e) fun h' u tk hk => ⟨_, _, rfl, .str _, H, I.kept (t' := tk) hk, ⟨u, rfl⟩, q⟩)
def rReprE (K : Frg) : List V → Hp → VK → Prop := fun xs H Q => ∃ x d, xs = [x] ∧ DpE K H x d ∧ d.showable = true ∧ d.shown.length ≤ sizeLine ∧ d.depth ≤ 60 ∧ Q (.str d.shown) H
section
variable {X : Cx} {K : Frg}
theorem call_reprE (hK : X.K = K) {k : Nat} (hr : Room k X.A) (hG : X.A.guards = some []) : CallR X (.builtin "repr") (rReprE K) := by
  subst hK
  intro pins s σ H xs us Q I r h
  obtain ⟨x, d, rfl, hd, h1, h3, h4, q⟩ := h
  obtain ⟨u, rfl, ru⟩ := vals1 r
  have hu := hr.un
  cases hd with
  | non =>
    cases ru
    exact PySem.P.repr_of_none ⟨.str _, H, I.tok _, ⟨_, rfl⟩, q⟩
  | bl b =>
    cases ru
    exact PySem.P.repr_of_bool ⟨.str _, H, I.tok _, ⟨_, rfl⟩, q⟩
  | int i =>
    obtain ⟨t, rfl⟩ := ru
    exact PySem.P.repr_of_int (of_decide_eq_true h1) ⟨.str _, H, I.tok _, ⟨_, rfl⟩, q⟩
  | str y =>
    obtain ⟨t, rfl⟩ := ru
    exact PySem.P.repr_of_str ⟨.str _, H, I.tok _, ⟨_, rfl⟩, q⟩ h3
  | lst a b =>
    cases ru
    exact repr_shown I (DpE.lst a b) h1 h3 hG (by omega) q
  | tup a b =>
    cases ru
    exact repr_shown I (DpE.tup a b) h1 h3 hG (by omega) q
  | emp a =>
    cases ru
    exact repr_shown I (DpE.emp a) h1 h3 hG (by omega) q
end
/-! ### its meaning -/
mutual
def rpE : Nat → D → Bool
  | _, .non => true
  | _, .bl _ => true
  | _, .int i => decide (i.natAbs.log2 < 1920)
  | _, .str _ => true
  | 0, .tup _ => false
  | n + 1, .tup xs => rpEs n xs
  | 0, .lst _ => false
  | n + 1, .lst xs => rpEs n xs
  | _, .src => false
  | _, .ty _ => false
  | n + 1, .dct [] [] => true
  | _, .dct _ _ => false
def rpEs : Nat → List D → Bool
  | _, [] => true
  | n, x :: xs => rpE n x && rpEs n xs
end
theorem rpEs_cons {n : Nat} {x : D} {xs : List D} : rpEs n (x :: xs) = (rpE n x && rpEs n xs) := by cases n <;> rfl
mutual
theorem rpE_py : ∀ (n : Nat) (d : D), rpE n d = true → (toPy d).showable = true ∧ (toPy d).depth ≤ n ∧ (toPy d).shown.length ≤ sz d
  | n, .non, _ => ⟨rfl, Nat.zero_le _, by decide⟩
  | n, .bl b, _ => ⟨rfl, Nat.zero_le _, by cases b <;> decide⟩
  | n, .str x, _ => ⟨rfl, Nat.zero_le _, Nat.le_refl _⟩
  | n, .int i, h => ⟨by cases n <;> exact h, Nat.zero_le _, shown_len_int i⟩
  | 0, .tup xs, h => by cases h
  | n + 1, .tup xs, h => by
    obtain ⟨a, b, c⟩ := rpEs_py n xs h
    refine ⟨a, Nat.succ_le_succ b, ?_⟩
    have hh := tupleText_len_le (PyData.shownAll (toPyL xs))
    show (tupleText (PyData.shownAll (toPyL xs))).length ≤ szL xs + 3
    omega
  | 0, .lst xs, h => by cases h
  | n + 1, .lst xs, h => by
    obtain ⟨a, b, c⟩ := rpEs_py n xs h
    refine ⟨a, Nat.succ_le_succ b, ?_⟩
    have hh := listText_len_le (PyData.shownAll (toPyL xs))
    show (listText (PyData.shownAll (toPyL xs))).length ≤ szL xs + 3
    omega
  | 0, .src, h => by cases h
  | n + 1, .src, h => by cases h
  | 0, .ty _, h => by cases h
  | n + 1, .ty _, h => by cases h
  | 0, .dct ks xs, h => by cases ks <;> cases xs <;> cases h
  | n + 1, .dct [] [], h => ⟨rfl, Nat.succ_le_succ (Nat.zero_le _), by decide⟩
  | n + 1, .dct (_ :: _) _, h => by cases h
  | n + 1, .dct [] (_ :: _), h => by cases h
theorem rpEs_py : ∀ (n : Nat) (ds : List D), rpEs n ds = true → PyData.showableAll (toPyL ds) = true ∧ PyData.depthAll (toPyL ds) ≤ n ∧ ((PyData.shownAll (toPyL ds)).map (·.length)).sum + 2 * (PyData.shownAll (toPyL ds)).length ≤ szL ds
  | n, [], _ => ⟨rfl, Nat.zero_le _, Nat.zero_le _⟩
  | n, d :: ds, h => by
    rw [rpEs_cons, Bool.and_eq_true] at h
    obtain ⟨a1, a2, a3⟩ := rpE_py n d h.1
    obtain ⟨b1, b2, b3⟩ := rpEs_py n ds h.2
    refine ⟨?_, Nat.max_le.mpr ⟨a2, b2⟩, ?_⟩
    · show (PyData.showable (toPy d) && PyData.showableAll (toPyL ds)) = true
      rw [a1, b1]
      rfl
    · show (((PyData.shown (toPy d)) :: PyData.shownAll (toPyL ds)).map (·.length)).sum + 2 * ((PyData.shown (toPy d)) :: PyData.shownAll (toPyL ds)).length ≤ sz d + 2 + szL ds
      rw [List.map_cons, List.sum_cons, List.length_cons]
      omega
end
mutual
theorem Rep.dpE {K : Frg} {G : Gh} {H : Hp} (g : GRel G H) : ∀ {d : D} {n : Nat} {v : V}, rpE n d = true → Rep G d v → DpE K H v (toPy d)
  | .non, _, _, _, h => by cases h; exact .non
  | .bl _, _, _, _, h => by cases h; exact .bl _
  | .int _, _, _, _, h => by cases h; exact .int _
  | .str _, _, _, _, h => by cases h; exact .str _
  | .tup xs, 0, _, o, _ => by cases o
  | .tup xs, n + 1, v, o, h => by
    obtain ⟨a, vs, e, h1, h2⟩ := h
    subst e
    exact .tup (SqT.of (g.f _ _ h1)) (RepL.dpE g (n := n) o h2)
  | .lst xs, 0, _, o, _ => by cases o
  | .lst xs, n + 1, v, o, h => by
    obtain ⟨a, vs, e, h1, h2⟩ := h
    subst e
    exact .lst (SqL.of (g.f _ _ h1)) (RepL.dpE g (n := n) o h2)
  | .src, 0, v, o, _ => by cases o
  | .src, n + 1, v, o, _ => by cases o
  | .ty _, 0, v, o, _ => by cases o
  | .ty _, n + 1, v, o, _ => by cases o
  | .dct ks xs, 0, v, o, _ => by cases ks <;> cases xs <;> cases o
  | .dct (_ :: _) _, n + 1, v, o, _ => by cases o
  | .dct [] (_ :: _), n + 1, v, o, _ => by cases o
  | .dct [] [], n + 1, v, _, h => by
    obtain ⟨a, o, ws, e, h1, h2, h3⟩ := h
    subst e
    refine .emp ?_
    rcases h2 with ⟨kvs, rfl, e, _⟩ | ⟨kvs, rfl, e, _⟩
    · have : kvs = [] := List.map_eq_nil_iff.mp e.symm
      subst this
      exact .inl (g.f _ _ h1)
    · have : kvs = [] := List.map_eq_nil_iff.mp e.symm
      subst this
      exact .inr (g.f _ _ h1)
theorem RepL.dpE {K : Frg} {G : Gh} {H : Hp} (g : GRel G H) : ∀ {ds : List D} {n : Nat} {vs : List V}, rpEs n ds = true → RepL G ds vs → DpEs K H vs (toPyL ds)
  | [], _, _, _, h => by cases h; exact .nil
  | x :: xs, n, vs, o, h => by
    obtain ⟨v, r, e, h1, h2⟩ := h
    subst e
    rw [rpEs_cons, Bool.and_eq_true] at o
    exact .cons (Rep.dpE g o.1 h1) (RepL.dpE g o.2 h2)
end
theorem RepB.dpE {K : Frg} {G : Gh} {H : Hp} (g : GRel G H) : ∀ {d : D} {n : Nat} {v : V}, rpE n d = true → RepB G H d v → DpE K H v (toPy d)
  | .non, n, _, o, h => Rep.dpE g (d := .non) (n := n) o h
  | .bl b, n, _, o, h => Rep.dpE g (d := .bl b) (n := n) o h
  | .int i, n, _, o, h => Rep.dpE g (d := .int i) (n := n) o h
  | .str x, n, _, o, h => Rep.dpE g (d := .str x) (n := n) o h
  | .tup xs, n, v, o, h => Rep.dpE g (d := .tup xs) (n := n) o h
  | .lst xs, 0, _, o, _ => by cases o
  | .lst xs, n + 1, v, o, h => by
    obtain ⟨a, vs, e, h1, _, h2⟩ := h
    subst e
    exact .lst (SqL.of h1) (RepL.dpE g (n := n) o h2)
  | .src, 0, v, o, _ => by cases o
  | .src, n + 1, v, o, _ => by cases o
  | .ty _, 0, v, o, _ => by cases o
  | .ty _, n + 1, v, o, _ => by cases o
  | .dct ks xs, 0, v, o, _ => by cases ks <;> cases xs <;> cases o
  | .dct (_ :: _) _, n + 1, v, o, _ => by cases o
  | .dct [] (_ :: _), n + 1, v, o, _ => by cases o
  | .dct [] [], n + 1, v, _, h => by
    obtain ⟨a, o, ws, e, h1, _, h2, h3⟩ := h
    subst e
    refine .emp ?_
    rcases h2 with ⟨kvs, rfl, e, _⟩ | ⟨kvs, rfl, e, _⟩
    · have : kvs = [] := List.map_eq_nil_iff.mp e.symm
      subst this
      exact .inl h1
    · have : kvs = [] := List.map_eq_nil_iff.mp e.symm
      subst this
      exact .inr h1
def mReprE : List D → (D → Prop) → Prop
  | [d], Q => rpE 60 d = true ∧ sz d ≤ sizeLine ∧ Q (.str (txt d))
  | _, _ => False
theorem cs_reprE {K : Frg} : CallS (rReprE K) mReprE := by
  intro G H vs ds Q k g r q c
  match ds, r, q with
  | [d], ⟨v, _, e, h, e'⟩, q =>
    subst e
    cases e'
    obtain ⟨q1, q2, q3⟩ := q
    obtain ⟨s1, s2, s3⟩ := rpE_py 60 d q1
    exact ⟨v, toPy d, rfl, RepB.dpE g q1 h, s1, Nat.le_trans s3 q2, s2, c _ H G (.str (txt d)) (Step.refl _ _) g rfl q3⟩
/-! what the old rule takes, the new one takes -/
mutual
theorem rpE_of : ∀ (n : Nat) (d : D), okd n d = true → shw d = true → rpE n d = true
  | n, .non, _, _ => by cases n <;> rfl
  | n, .bl b, _, _ => by cases n <;> rfl
  | n, .str x, _, _ => by cases n <;> rfl
  | n, .int i, _, h => by cases n <;> exact h
  | 0, .tup xs, o, _ => by cases o
  | n + 1, .tup xs, o, h => rpEs_of n xs o h
  | 0, .lst xs, o, _ => by cases o
  | n + 1, .lst xs, o, h => rpEs_of n xs o h
  | n, .src, _, h => by cases h
  | n, .ty _, _, h => by cases h
  | n, .dct _ _, _, h => by cases h
theorem rpEs_of : ∀ (n : Nat) (ds : List D), okL n ds = true → shwL ds = true → rpEs n ds = true
  | n, [], _, _ => by cases n <;> rfl
  | n, d :: ds, o, h => by
    have o' : (okd n d && okL n ds) = true := by cases n <;> exact o
    have h' : (shw d && shwL ds) = true := h
    rw [Bool.and_eq_true] at o' h'
    rw [rpEs_cons, rpE_of n d o'.1 h'.1, rpEs_of n ds o'.2 h'.2]
    rfl
end
end DL

set_option Elab.async false
set_option linter.all false
set_option maxRecDepth 100000
namespace DL
open PySem PySem.Spec PyProof.Rows L2
/-! ### == [] and == (), whatever stands in the other; dict(pairs), len of a dict -/
def rEmp (f : Bool → Bool) (K : Frg) : R2 := fun x y H Q => ∃ a c xs, x = .ref a ∧ y = .ref c ∧ ((SqL K H a xs ∧ SqL K H c []) ∨ (SqT K H a xs ∧ SqT K H c [])) ∧ Q (.bl (f xs.isEmpty)) H
section
variable {X : Cx}
theorem op_eqZ0 (hu : X.A.units < cLine) : OpR X (compareOp .Eq) (rEmp id X.K) := by
  intro pins s σ H x y v u Q I rx ry h
  obtain ⟨a, c, xs, rfl, rfl, h | h, q⟩ := h
  · cases rx
    cases ry
    obtain ⟨its, rv, pl, hz⟩ := I.list h.1
    obtain ⟨its2, rv2, pl2, hz2⟩ := I.list h.2
    cases rv2
    cases rv with
    | nil => exact SeqAt.eq_listAt (e := fun _ => true) pl.isList pl2.isList rfl hu (fun j h1 h2 => by simp at h1) ⟨.bl _, H, I, rfl, q⟩
    | cons r1 r2 => exact SeqAt.eq_list_lengthsAt pl.isList pl2.isList (by simp) hu ⟨.bl _, H, I, rfl, q⟩
  · cases rx
    cases ry
    obtain ⟨its, rv, pl, hz⟩ := I.tuple h.1
    obtain ⟨its2, rv2, pl2, hz2⟩ := I.tuple h.2
    cases rv2
    cases rv with
    | nil => exact SeqAt.eq_tupleAt (e := fun _ => true) pl pl2 hu (fun j h1 h2 => by simp at h1) ⟨.bl _, H, I, rfl, q⟩
    | cons r1 r2 => exact SeqAt.eq_tupleAt (e := fun _ => true) pl pl2 hu (fun j h1 h2 => by simp at h2) ⟨.bl _, H, I, by simp; rfl, q⟩
theorem op_neZ0 (hu : X.A.units < cLine) : OpR X (compareOp .NotEq) (rEmp (!·) X.K) := by
  intro pins s σ H x y v u Q I rx ry h
  obtain ⟨a, c, xs, rfl, rfl, h | h, q⟩ := h
  · cases rx
    cases ry
    obtain ⟨its, rv, pl, hz⟩ := I.list h.1
    obtain ⟨its2, rv2, pl2, hz2⟩ := I.list h.2
    cases rv2
    cases rv with
    | nil => exact SeqAt.RcNeAt.lists (e := fun _ => true) pl.isList pl2.isList rfl hu (fun j h1 h2 => by simp at h1) _ _ _ _ ⟨.bl _, H, I, rfl, q⟩
    | cons r1 r2 => exact SeqAt.RcNeAt.lists_lengths pl.isList pl2.isList (by simp) hu _ _ _ _ ⟨.bl _, H, I, rfl, q⟩
  · cases rx
    cases ry
    obtain ⟨its, rv, pl, hz⟩ := I.tuple h.1
    obtain ⟨its2, rv2, pl2, hz2⟩ := I.tuple h.2
    cases rv2
    cases rv with
    | nil => exact SeqAt.RcNeAt.tuples (e := fun _ => true) pl pl2 hu (fun j h1 h2 => by simp at h1) _ _ _ _ ⟨.bl _, H, I, rfl, q⟩
    | cons r1 r2 => exact SeqAt.RcNeAt.tuples (e := fun _ => true) pl pl2 hu (fun j h1 h2 => by simp at h2) _ _ _ _ ⟨.bl _, H, I, by simp; rfl, q⟩
end
def emp? : D → D → Option Bool
  | .lst xs, .lst [] => some xs.isEmpty
  | .tup xs, .tup [] => some xs.isEmpty
  | _, _ => none
def mEqZ (a b : D) (Q : D → Prop) : Prop := match emp? a b with | some e => Q (.bl e) | none => mEq a b Q
def mNeZ (a b : D) (Q : D → Prop) : Prop := match emp? a b with | some e => Q (.bl (!e)) | none => mNe a b Q
def rEqZ (K : Frg) : R2 := fun x y H Q => rEqA K x y H Q ∨ rEmp id K x y H Q
def rNeZ (K : Frg) : R2 := fun x y H Q => rNeA K x y H Q ∨ rEmp (!·) K x y H Q
theorem emp_inv {G : Gh} {H : Hp} {K : Frg} {a b : D} {e : Bool} {x y : V} (g : GRel G H) (h : emp? a b = some e) (rx : RepB G H a x) (ry : RepB G H b y) :
    ∃ p c xs, x = .ref p ∧ y = .ref c ∧ ((SqL K H p xs ∧ SqL K H c []) ∨ (SqT K H p xs ∧ SqT K H c [])) ∧ e = xs.isEmpty := by
  cases a <;> try (cases h; done)
  · rename_i xs
    cases b <;> try (cases h; done)
    rename_i ys
    cases ys <;> try (cases h; done)
    obtain ⟨p, vs, rfl, h1, h3⟩ := rx
    obtain ⟨c, ws, rfl, k1, k3⟩ := ry
    have e0 : ws = [] := k3
    subst e0
    refine ⟨p, c, vs, rfl, rfl, .inr ⟨SqT.of (g.f _ _ h1), SqT.of (g.f _ _ k1)⟩, ?_⟩
    have e1 : xs.isEmpty = e := Option.some.inj h
    have := h3.length
    rw [← e1]
    cases xs <;> cases vs <;> first | rfl | simp at this
  · rename_i xs
    cases b <;> try (cases h; done)
    rename_i ys
    cases ys <;> try (cases h; done)
    obtain ⟨p, vs, rfl, h1, h2, h3⟩ := rx
    obtain ⟨c, ws, rfl, k1, k2, k3⟩ := ry
    have e0 : ws = [] := k3
    subst e0
    refine ⟨p, c, vs, rfl, rfl, .inl ⟨SqL.of h1, SqL.of k1⟩, ?_⟩
    have e1 : xs.isEmpty = e := Option.some.inj h
    have := h3.length
    rw [← e1]
    cases xs <;> cases vs <;> first | rfl | simp at this
section
variable {K : Frg} {X : Cx}
theorem op_eqZ (hK : X.K = K) {k : Nat} (hr : Room k X.A) : OpR X (compareOp .Eq) (rEqZ K) := (op_eqA hK hr).or (by subst hK; exact op_eqZ0 hr.units0)
theorem op_neZ (hK : X.K = K) {k : Nat} (hr : Room k X.A) : OpR X (compareOp .NotEq) (rNeZ K) := (op_neA hK hr).or (by subst hK; exact op_neZ0 hr.units0)
theorem os_eqZ : OpS (rEqZ K) mEqZ := by
  intro G H x y dx dy Q k g rx ry q c
  unfold mEqZ at q
  cases h : emp? dx dy with
  | none =>
    rw [h] at q
    exact .inl (os_eq G H x y dx dy Q k g rx ry q c)
  | some e =>
    rw [h] at q
    obtain ⟨p, r, xs, rfl, rfl, h1, rfl⟩ := emp_inv (K := K) g h rx ry
    exact .inr ⟨p, r, xs, rfl, rfl, h1, c _ H G (.bl xs.isEmpty) (Step.refl _ _) g rfl q⟩
theorem os_neZ : OpS (rNeZ K) mNeZ := by
  intro G H x y dx dy Q k g rx ry q c
  unfold mNeZ at q
  cases h : emp? dx dy with
  | none =>
    rw [h] at q
    exact .inl (os_ne G H x y dx dy Q k g rx ry q c)
  | some e =>
    rw [h] at q
    obtain ⟨p, r, xs, rfl, rfl, h1, rfl⟩ := emp_inv (K := K) g h rx ry
    exact .inr ⟨p, r, xs, rfl, rfl, h1, c _ H G (.bl (!xs.isEmpty)) (Step.refl _ _) g rfl q⟩
end
section
variable {Q : D → Prop} {xs : List D}
theorem x_eqZl : mEqZ (.lst xs) (.lst []) Q = Q (.bl xs.isEmpty) := propext Iff.rfl
theorem x_neZl : mNeZ (.lst xs) (.lst []) Q = Q (.bl (!xs.isEmpty)) := propext Iff.rfl
theorem x_eqZt : mEqZ (.tup xs) (.tup []) Q = Q (.bl xs.isEmpty) := propext Iff.rfl
theorem x_neZt : mNeZ (.tup xs) (.tup []) Q = Q (.bl (!xs.isEmpty)) := propext Iff.rfl
end
/-! ### dict(pairs) -/
def putD (kvs : List (Key × D)) (k : Key) (v : D) : List (Key × D) :=
  if (kvs.any fun kv => decide (kv.1 = k)) = true then kvs.map (fun kv => if kv.1 = k then (kv.1, v) else kv) else kvs ++ [(k, v)]
def mergeD (kvs more : List (Key × D)) : List (Key × D) := more.foldl (fun acc kv => putD acc kv.1 kv.2) kvs
def kv1 : D → Option (Key × D)
  | .tup [.int i, v] => some (.inl i, v)
  | .tup [.str s, v] => some (.inr s, v)
  | _ => none
def kvs? : List D → Option (List (Key × D))
  | [] => some []
  | p :: ps => match kv1 p, kvs? ps with | some x, some xs => some (x :: xs) | _, _ => none
def dctOf (kvs : List (Key × D)) : D := .dct (kvs.map fun p => keyD p.1) (kvs.map (·.2))
def mDictP : List D → (D → Prop) → Prop
  | [.lst ps], Q => match kvs? ps with | some kvs => Q (dctOf (mergeD [] kvs)) | none => False
  | _, _ => False
def RKV (G : Gh) (a : List (Key × D)) (b : List (Key × V)) : Prop := a.map (·.1) = b.map (·.1) ∧ RepL G (a.map (·.2)) (b.map (·.2))
theorem RKV.nil {G : Gh} : RKV G [] [] := ⟨rfl, rfl⟩
theorem RKV.cons {G : Gh} {k : Key} {d : D} {v : V} {a : List (Key × D)} {b : List (Key × V)} (h : Rep G d v) (t : RKV G a b) : RKV G ((k, d) :: a) ((k, v) :: b) :=
  ⟨by rw [List.map_cons, List.map_cons, t.1], v, _, rfl, h, t.2⟩
theorem RKV.inv {G : Gh} {k : Key} {d : D} {a : List (Key × D)} {b : List (Key × V)} (h : RKV G ((k, d) :: a) b) : ∃ v b', b = (k, v) :: b' ∧ Rep G d v ∧ RKV G a b' := by
  obtain ⟨h1, v, r, h2, h3, h4⟩ := h
  cases b with
  | nil => cases h1
  | cons q b =>
    obtain ⟨k', v'⟩ := q
    rw [List.map_cons, List.map_cons, List.cons.injEq] at h1
    rw [List.map_cons, List.cons.injEq] at h2
    obtain ⟨e1, e2⟩ := h1
    obtain ⟨e3, e4⟩ := h2
    dsimp only at e1 e3
    subst e1 e3 e4
    exact ⟨_, b, rfl, h3, e2, h4⟩
theorem RKV.any {G : Gh} {k : Key} : ∀ {a : List (Key × D)} {b : List (Key × V)}, RKV G a b → (a.any fun kv => decide (kv.1 = k)) = (b.any fun kv => decide (kv.1 = k))
  | [], b, h => by
    obtain ⟨h1, _⟩ := h
    cases b with
    | nil => rfl
    | cons => cases h1
  | (k', d) :: a, b, h => by
    obtain ⟨v, b', rfl, _, h2⟩ := h.inv
    rw [List.any_cons, List.any_cons, h2.any]
theorem RKV.snoc {G : Gh} {k : Key} {d : D} {v : V} {a : List (Key × D)} {b : List (Key × V)} (t : RKV G a b) (h : Rep G d v) : RKV G (a ++ [(k, d)]) (b ++ [(k, v)]) := by
  refine ⟨by rw [List.map_append, List.map_append, t.1]; rfl, ?_⟩
  rw [List.map_append, List.map_append]
  exact t.2.append (.one h)
theorem RKV.repl {G : Gh} {k : Key} {d : D} {v : V} (h : Rep G d v) : ∀ {a : List (Key × D)} {b : List (Key × V)}, RKV G a b → RKV G (a.map fun kv => if kv.1 = k then (kv.1, d) else kv) (b.map fun kv => if kv.1 = k then (kv.1, v) else kv)
  | [], b, t => by
    obtain ⟨h1, _⟩ := t
    cases b with
    | nil => exact .nil
    | cons => cases h1
  | (k', d') :: a, b, t => by
    obtain ⟨v', b', rfl, h1, h2⟩ := t.inv
    rw [List.map_cons, List.map_cons]
    dsimp only
    by_cases e : k' = k
    · rw [if_pos e, if_pos e]
      exact .cons h (RKV.repl h h2)
    · rw [if_neg e, if_neg e]
      exact .cons h1 (RKV.repl h h2)
theorem RKV.put {G : Gh} {k : Key} {d : D} {v : V} {a : List (Key × D)} {b : List (Key × V)} (t : RKV G a b) (h : Rep G d v) : RKV G (putD a k d) (putK b k v) := by
  unfold putD putK
  rw [t.any (k := k)]
  by_cases e : (b.any fun kv => decide (kv.1 = k)) = true
  · rw [if_pos e, if_pos e]
    exact t.repl h
  · rw [if_neg e, if_neg e]
    exact t.snoc h
theorem RKV.merge {G : Gh} : ∀ {m : List (Key × D)} {n : List (Key × V)} {a : List (Key × D)} {b : List (Key × V)}, RKV G m n → RKV G a b → RKV G (mergeD a m) (mergeK b n)
  | [], n, a, b, h, t => by
    obtain ⟨h1, _⟩ := h
    cases n with
    | nil => exact t
    | cons => cases h1
  | (k, d) :: m, n, a, b, h, t => by
    obtain ⟨v, n', rfl, h1, h2⟩ := h.inv
    exact RKV.merge (a := putD a k d) (b := putK b k v) h2 (t.put h1)
theorem kv1_inv {p : D} {x : Key × D} (h : kv1 p = some x) : p = .tup [keyD x.1, x.2] := by
  unfold kv1 at h
  split at h
  · cases h; rfl
  · cases h; rfl
  · cases h
theorem rep_key {G : Gh} {k : Key} {v : V} (h : Rep G (keyD k) v) : v = kV k := by
  cases k with
  | inl i => exact h
  | inr s => exact h
theorem kvs_rep {K : Frg} {G : Gh} {H : Hp} (g : GRel G H) : ∀ {ps : List D} {kvs : List (Key × D)} {vs : List V}, kvs? ps = some kvs → RepL G ps vs →
    ∃ (as : List Addr) (ws : List (Key × V)), vs = as.map V.ref ∧ Paired (fun p kv => SqT K H p [kV kv.1, kv.2]) as ws ∧ RKV G kvs ws
  | [], kvs, vs, h, r => by
    cases h
    have e : vs = [] := r
    subst e
    exact ⟨[], [], rfl, .nil, .nil⟩
  | p :: ps, kvs, vs, h, r => by
    obtain ⟨v, r', rfl, h1, h2⟩ := r
    unfold kvs? at h
    cases e1 : kv1 p with
    | none =>
      rw [e1] at h
      cases h
    | some x =>
      cases e2 : kvs? ps with
      | none =>
        rw [e1, e2] at h
        cases h
      | some xs =>
        rw [e1, e2] at h
        cases h
        obtain ⟨as, ws, rfl, h3, h4⟩ := kvs_rep g e2 h2
        rw [kv1_inv e1] at h1
        obtain ⟨a, us, rfl, k1, k2⟩ := h1
        obtain ⟨u1, r1, rfl, k3, k4⟩ := k2
        obtain ⟨u2, r2, rfl, k5, k6⟩ := k4
        have e3 : r2 = [] := k6
        subst e3
        rw [rep_key k3] at k1
        exact ⟨a :: as, (x.1, u2) :: ws, rfl, .cons (SqT.of (g.f _ _ k1)) h3, RKV.cons k5 h4⟩
theorem new_obj {G : Gh} {H : Hp} (g : GRel G H) {p : Addr} {o : HO} {ks xs : List D} {ws : List V} (n : H p = none) (d : DctAt o ks ws) (r : RepL G xs ws) :
    Step G H (G.put p o) (upd H p o) ∧ GRel (G.put p o) (upd H p o) ∧ Rep (G.put p o) (.dct ks xs) (.ref p) :=
  ⟨(Step.new n).put n (g.fnone n), (g.new n).freeze upd_same (g.fnone n) (g.snone n), p, o, ws, rfl, upd_same, d, r.mono (Gle.put (g.fnone n))⟩
def rDictP (K : Frg) : List V → Hp → VK → Prop := fun xs H Q => ∃ (a : Addr) (ps : List Addr) (kvs : List (Key × V)), xs = [.ref a] ∧ SqL K H a (ps.map V.ref) ∧ Paired (fun p kv => SqT K H p [kV kv.1, kv.2]) ps kvs ∧
    ∀ p, H p = none → Q (.ref p) (upd H p (.dK (mergeK [] kvs)))
section
variable {K : Frg} {X : Cx}
theorem call_dictA (hK : X.K = K) (hc : X.calm = true) : CallR X (.type "dict") (rDictP K) := by
  subst hK
  exact call_dictP hc
theorem cs_dict : CallS (rDictP K) mDictP := by
  intro G H vs ds Q k g r q c
  match ds, r, q with
  | [.lst ps], ⟨v, _, e, h, e'⟩, q =>
    subst e
    cases e'
    obtain ⟨a, ws, e, h1, h2, h3⟩ := h
    subst e
    have q : (match kvs? ps with | some kvs => Q (dctOf (mergeD [] kvs)) | none => False) := q
    cases hk : kvs? ps with
    | none =>
      rw [hk] at q
      exact q.elim
    | some kvs =>
      rw [hk] at q
      obtain ⟨as, xs, rfl, k1, k2⟩ := kvs_rep (K := K) g hk h3
      refine ⟨a, as, xs, rfl, SqL.of h1, k1, fun p n => ?_⟩
      have m := RKV.merge k2 (RKV.nil (G := G))
      obtain ⟨s', g', r'⟩ := new_obj (ks := (mergeD [] kvs).map fun p => keyD p.1) (xs := (mergeD [] kvs).map (·.2)) g n (.inl ⟨mergeK [] xs, rfl, by
        have e : (mergeD [] kvs).map (fun p => keyD p.1) = ((mergeD [] kvs).map (·.1)).map keyD := by rw [List.map_map]; rfl
        rw [e, m.1, List.map_map]
        rfl, rfl⟩) m.2
      exact c _ _ _ _ s' g' r' q
theorem put_keys (kvs : List (Key × D)) (k : Key) (v : D) (h : (kvs.map (·.1)).Nodup) : ((putD kvs k v).map (·.1)).Nodup ∧ ∀ x, x ∈ (putD kvs k v).map (·.1) ↔ x = k ∨ x ∈ kvs.map (·.1) := by
  unfold putD
  by_cases e : (kvs.any fun kv => decide (kv.1 = k)) = true
  · rw [if_pos e]
    have em : (kvs.map fun kv => if kv.1 = k then (kv.1, v) else kv).map (·.1) = kvs.map (·.1) := by
      rw [List.map_map]
      refine List.map_congr_left fun p _ => ?_
      show (if p.1 = k then (p.1, v) else p).1 = p.1
      split <;> rfl
    rw [em]
    refine ⟨h, fun x => ⟨.inr, fun z => ?_⟩⟩
    rcases z with rfl | z
    · obtain ⟨p, hp, e2⟩ := List.any_eq_true.mp e
      exact List.mem_map.mpr ⟨p, hp, of_decide_eq_true e2⟩
    · exact z
  · rw [if_neg e, List.map_append]
    have nk : k ∉ kvs.map (·.1) := fun m => by
      obtain ⟨p, hp, e2⟩ := List.mem_map.mp m
      exact e (List.any_eq_true.mpr ⟨p, hp, decide_eq_true e2⟩)
    refine ⟨List.nodup_append.mpr ⟨h, by simp, fun a ha b hb => ?_⟩, fun x => ?_⟩
    · rw [List.map_singleton, List.mem_singleton] at hb
      intro e
      rw [e, hb] at ha
      exact nk ha
    · rw [List.mem_append, List.map_singleton, List.mem_singleton]
      exact Or.comm
theorem merge_keysA : ∀ (m kvs : List (Key × D)), (kvs.map (·.1)).Nodup → ((mergeD kvs m).map (·.1)).Nodup ∧ ∀ x, x ∈ (mergeD kvs m).map (·.1) ↔ x ∈ m.map (·.1) ∨ x ∈ kvs.map (·.1)
  | [], kvs, h => ⟨h, fun x => ⟨.inr, fun z => by
    rcases z with z | z
    · cases z
    · exact z⟩⟩
  | p :: m, kvs, h => by
    obtain ⟨h1, h2⟩ := put_keys kvs p.1 p.2 h
    obtain ⟨h3, h4⟩ := merge_keysA m (putD kvs p.1 p.2) h1
    refine ⟨h3, fun x => ?_⟩
    show x ∈ (mergeD (putD kvs p.1 p.2) m).map (·.1) ↔ _
    rw [h4, h2, List.map_cons, List.mem_cons, ← or_assoc, or_comm (a := x ∈ m.map (·.1))]
/-- the keys of dict(pairs): each once -/
theorem merge_keys (m : List (Key × D)) : ((mergeD [] m).map (·.1)).Nodup ∧ ∀ x, x ∈ (mergeD [] m).map (·.1) ↔ x ∈ m.map (·.1) := by
  obtain ⟨h1, h2⟩ := merge_keysA m [] List.nodup_nil
  exact ⟨h1, fun x => by rw [h2]; simp⟩
/-- len of a dict -/
def mLenD : List D → (D → Prop) → Prop
  | [.dct ks _], Q => Q (.int ks.length)
  | _, _ => False
def rLenE (K : Frg) : List V → Hp → VK → Prop := fun xs H Q => ∃ a, xs = [V.ref a] ∧ ((∃ kvs, H a = some (.dK kvs) ∧ Q (.int kvs.length) H) ∨ ∃ kvs, H a = some (.dT kvs) ∧ Q (.int kvs.length) H)
theorem call_lenE (hK : X.K = K) : CallR X (.builtin "len") (rLenE K) := by
  subst hK
  intro pins s σ H xs us Q I r h
  obtain ⟨a, rfl, ⟨kvs, ha, q⟩ | ⟨kvs, ha, q⟩⟩ := h
  · exact call_lenD pins s σ H [.ref a] us Q I r ⟨a, kvs, rfl, ha, q⟩
  · exact call_len_dT pins s σ H [.ref a] us Q I r ⟨a, kvs, rfl, ha, q⟩
theorem cs_lenD : CallS (rLenE K) mLenD := by
  intro G H vs ds Q k g r q c
  match ds, r, q with
  | [.dct ks xs], ⟨v, _, e, h, e'⟩, q =>
    subst e
    cases e'
    obtain ⟨a, o, ws, e, h1, h2, h3, h4⟩ := h
    subst e
    rcases h3 with ⟨kvs, rfl, rfl, e3⟩ | ⟨kvs, rfl, rfl, e3⟩
    · refine ⟨a, rfl, .inl ⟨kvs, h1, ?_⟩⟩
      have q : Q (.int ((kvs.map fun p => keyD p.1).length : Int)) := q
      rw [List.length_map] at q
      exact c _ H G (.int (kvs.length : Int)) (Step.refl _ _) g rfl q
    · refine ⟨a, rfl, .inr ⟨kvs, h1, ?_⟩⟩
      have q : Q (.int ((kvs.map fun p => D.tup (p.1.map keyD)).length : Int)) := q
      rw [List.length_map] at q
      exact c _ H G (.int (kvs.length : Int)) (Step.refl _ _) g rfl q
end
end DL

set_option Elab.async false
set_option linter.all false
set_option maxRecDepth 100000
namespace DL
open PySem
open L2 (CMulW CDivW CPow atI)

/-! ### reasoning about meanings (no program in sight) -/
theorem ifD {p : Prop} [Decidable p] {A B : Prop} (h1 : p → A) (h2 : ¬ p → B) : if decide p = true then A else B := by
  by_cases h : p
  · rw [if_pos (decide_eq_true h)]
    exact h1 h
  · rw [if_neg (by rw [decide_eq_false h]; decide)]
    exact h2 h
theorem ifT {p : Prop} [Decidable p] {A B : Prop} (h : p) (a : A) : if decide p = true then A else B := ifD (fun _ => a) fun n => absurd h n
theorem ifF {p : Prop} [Decidable p] {A B : Prop} (h : ¬ p) (b : B) : if decide p = true then A else B := ifD (fun n => absurd n h) fun _ => b
theorem ifB {b : Bool} {A B : Prop} (h1 : b = true → A) (h2 : b = false → B) : if b = true then A else B := by
  cases b with
  | true => exact h1 rfl
  | false =>
    rw [if_neg (by decide)]
    exact h2 rfl
theorem ifBT {b : Bool} {A B : Prop} (h : b = true) (a : A) : if b = true then A else B := by
  rw [if_pos h]
  exact a
theorem ifBF {b : Bool} {A B : Prop} (h : b = false) (a : B) : if b = true then A else B := by
  rw [h, if_neg (by decide)]
  exact a

section
variable {en : En} {mg : D → En → (En → Prop) → Prop} {mt : M Bool} {me : M D}
/-- a comprehension, turn by turn: what each turn gives, if it gives -/
theorem lc_fm (g : Nat → D → Option D) : ∀ (xs : List D) (k : Nat) (acc : List D) (Q : List D → Prop),
    (∀ (i : Nat) x, xs[i]? = some x → ∀ (Qy : D → Prop) (Qn : Prop), (∀ d, g (k + i) x = some d → Qy d) → (g (k + i) x = none → Qn) → mg x en fun en2 => mt en2 fun b => if b = true then me en2 Qy else Qn) →
    Q (acc ++ (xs.mapIdx fun i x => (g (k + i) x).toList).flatten) → lcL en mg mt me xs acc Q
  | [], k, acc, Q, _, h => by
    rw [List.mapIdx_nil, List.flatten_nil, List.append_nil] at h
    exact h
  | x :: xs, k, acc, Q, hs, h => by
    rw [List.mapIdx_cons, List.flatten_cons] at h
    have e : (fun (i : Nat) (x : D) => (g (k + (i + 1)) x).toList) = fun (i : Nat) (x : D) => (g (k + 1 + i) x).toList := by
      funext i x
      rw [Nat.add_assoc, Nat.add_comm 1 i]
    rw [e] at h
    refine hs 0 x rfl _ _ (fun d hd => ?_) fun hn => ?_
    · refine lc_fm g xs (k + 1) _ Q (fun i y hy => ?_) ?_
      · rw [Nat.add_assoc, Nat.add_comm 1 i]
        exact hs (i + 1) y hy
      · rw [Nat.add_zero] at h hd
        rw [hd] at h
        rw [List.append_assoc]
        exact h
    · refine lc_fm g xs (k + 1) _ Q (fun i y hy => ?_) ?_
      · rw [Nat.add_assoc, Nat.add_comm 1 i]
        exact hs (i + 1) y hy
      · rw [Nat.add_zero] at h hn
        rw [hn] at h
        exact h
/-- each turn gives one: by its number -/
theorem lc_map (w : Nat → D) : ∀ (xs : List D) (k : Nat) (acc : List D) (Q : List D → Prop),
    (∀ (i : Nat) x, xs[i]? = some x → ∀ (Qy : D → Prop) (Qn : Prop), Qy (w (k + i)) → mg x en fun en2 => mt en2 fun b => if b = true then me en2 Qy else Qn) →
    Q (acc ++ (List.range' k xs.length).map w) → lcL en mg mt me xs acc Q
  | [], k, acc, Q, _, h => by
    rw [List.length_nil, List.range'_zero, List.map_nil, List.append_nil] at h
    exact h
  | x :: xs, k, acc, Q, hs, h => by
    rw [List.length_cons, List.range'_succ, List.map_cons] at h
    refine hs 0 x rfl _ _ ?_
    refine lc_map w xs (k + 1) _ Q (fun i y hy => ?_) ?_
    · rw [Nat.add_assoc, Nat.add_comm 1 i]
      exact hs (i + 1) y hy
    · rw [Nat.add_zero, List.append_assoc]
      exact h
/-- each turn gives one of which R holds -/
theorem lc_rel (R : Nat → D → Prop) : ∀ (xs : List D) (k : Nat) (acc : List D) (Q : List D → Prop),
    (∀ (i : Nat) x, xs[i]? = some x → ∀ (Qy : D → Prop) (Qn : Prop), (∀ d, R (k + i) d → Qy d) → mg x en fun en2 => mt en2 fun b => if b = true then me en2 Qy else Qn) →
    (∀ ds : List D, ds.length = xs.length → (∀ (i : Nat) d, ds[i]? = some d → R (k + i) d) → Q (acc ++ ds)) → lcL en mg mt me xs acc Q
  | [], k, acc, Q, _, h => by
    have := h [] rfl fun i d hd => by cases hd
    rw [List.append_nil] at this
    exact this
  | x :: xs, k, acc, Q, hs, h => by
    refine hs 0 x rfl _ _ fun d hd => ?_
    refine lc_rel R xs (k + 1) _ Q (fun i y hy => ?_) fun ds hl hr => ?_
    · rw [Nat.add_assoc, Nat.add_comm 1 i]
      exact hs (i + 1) y hy
    · rw [List.append_assoc]
      refine h (d :: ds) (by rw [List.length_cons, List.length_cons, hl]) fun i z hz => ?_
      cases i with
      | zero =>
        cases hz
        exact hd
      | succ i =>
        have := hr i z hz
        rw [Nat.add_assoc, Nat.add_comm 1 i] at this
        exact this
end
theorem rng_len (lo : Int) (n : Nat) : (rng lo n).length = n := by
  unfold rng
  rw [List.length_map, List.length_range]
theorem rng_get {lo : Int} {n i : Nat} {x : D} (h : (rng lo n)[i]? = some x) : i < n ∧ x = .int (lo + (i : Int)) := by
  have hi : i < n := by
    have := (List.getElem?_eq_some_iff.mp h).1
    rw [rng_len] at this
    exact this
  unfold rng at h
  rw [List.getElem?_map, List.getElem?_range hi] at h
  cases h
  exact ⟨hi, rfl⟩
section
variable {mg : D → En → (En → Prop) → Prop} {mb : MS} {F : Fin}
theorem for_inv (Iv : Nat → En → Prop) : ∀ (xs : List D) (k : Nat) {en : En}, Iv k en →
    (∀ (i : Nat) x en, xs[i]? = some x → Iv (k + i) en → ∀ N : En → Prop, (∀ en', Iv (k + i + 1) en' → N en') → mg x en fun en2 => mb { F with nx := N, ct := N, bk := F.nx } en2) →
    (∀ en, Iv (k + xs.length) en → F.nx en) → forL mg mb F xs en
  | [], k, en, h, _, hd => hd en h
  | x :: xs, k, en, h, hs, hd => by
    refine hs 0 x en rfl h _ fun en' h' => ?_
    refine for_inv Iv xs (k + 1) h' (fun i y e hy => ?_) fun e he => ?_
    · rw [Nat.add_assoc k 1 i, Nat.add_comm 1 i]
      exact hs (i + 1) y e hy
    · refine hd e ?_
      rw [List.length_cons, Nat.add_comm xs.length 1, ← Nat.add_assoc]
      exact he
theorem while_inv {mt : M Bool} (Iv : Nat → En → Prop) (hs : ∀ n en, Iv n en → ∀ N : En → Prop, (∀ k en', k < n → Iv k en' → N en') → mt en fun b => if b = true then mb { F with nx := N, ct := N, bk := F.nx } en else F.nx en) :
    ∀ (f n : Nat) {en : En}, n < f → Iv n en → whN mt mb F f en
  | 0, n, en, h, _ => absurd h (Nat.not_lt_zero _)
  | f + 1, n, en, h, hi => hs n en hi _ fun k en' hk hk' => while_inv Iv hs f k (Nat.lt_of_lt_of_le hk (Nat.le_of_lt_succ h)) hk'
end
theorem while_of {mt : M Bool} {mb : MS} {F : Fin} (Iv : Nat → En → Prop) {n : Nat} {en : En} (h : Iv n en) (hs : ∀ n en, Iv n en → ∀ N : En → Prop, (∀ k en', k < n → Iv k en' → N en') → mt en fun b => if b = true then mb { F with nx := N, ct := N, bk := F.nx } en else F.nx en) :
    sWh mt mb F en := ⟨n + 1, while_inv Iv hs (n + 1) n (Nat.lt_succ_self n) h⟩

theorem szk {l : List D} (k : Nat) (h : l.length = k := by rfl) (hk : k ≤ 1000 := by decide) : l.length ≤ sizeLine := by
  rw [h]
  exact Nat.le_trans hk (by decide)

/-- range(i, j, c) upward -/
theorem rgc_up {i j c : Int} (hc : 0 < c) (hc2 : c < 1000000) (hi : -1000000000 ≤ i) (hi2 : i ≤ 1000000000) (hj : -1000000000 ≤ j) (hj2 : j ≤ 1000000000) :
    ∃ n : Nat, L2.RgC i j c n ∧ ∀ t : Nat, t < n ↔ i + (t : Int) * c < j := by
  have key : ∀ q : Int, i < j → q = (j - i - 1) / c → 0 ≤ q ∧ q ≤ j - i - 1 ∧ ∀ t : Nat, (t : Int) ≤ q ↔ i + (t : Int) * c < j := by
    intro q h e
    subst e
    refine ⟨Int.ediv_nonneg (by omega) (by omega), ?_, fun t => ?_⟩
    · have h1 := Int.ediv_mul_le (j - i - 1) (show c ≠ 0 by omega)
      have h2 : 0 ≤ (j - i - 1) / c := Int.ediv_nonneg (by omega) (by omega)
      have h3 : (j - i - 1) / c * 1 ≤ (j - i - 1) / c * c := Int.mul_le_mul_of_nonneg_left (by omega) h2
      omega
    · rw [Int.le_ediv_iff_mul_le hc]
      omega
  by_cases h : i < j
  · obtain ⟨k1, k2, k3⟩ := key _ h rfl
    refine ⟨((j - i - 1) / c + 1).toNat, ⟨by omega, by omega, ?_, ?_⟩, fun t => ?_⟩
    · unfold Builtin.Range.small Builtin.Range.rangeSize
      rw [if_pos hc, if_pos h, if_pos hc]
      simp only [Builtin.Range.rangeFitsLong, Bool.and_eq_true, Bool.or_eq_true, decide_eq_true_eq]
      omega
    · unfold Builtin.Range.rangeSize
      rw [if_pos hc, if_pos h]
      omega
    · rw [← k3 t]
      omega
  · refine ⟨0, ⟨by omega, by omega, ?_, ?_⟩, fun t => ?_⟩
    · unfold Builtin.Range.small Builtin.Range.rangeSize
      rw [if_pos hc, if_neg h, if_pos hc]
      simp only [Builtin.Range.rangeFitsLong, Bool.and_eq_true, Bool.or_eq_true, decide_eq_true_eq]
      omega
    · unfold Builtin.Range.rangeSize
      rw [if_pos hc, if_neg h]
      rfl
    · have h1 : 0 ≤ (t : Int) * c := Int.mul_nonneg (by omega) (by omega)
      omega
theorem rngC_len (lo c : Int) (n : Nat) : (rngC lo c n).length = n := by
  unfold rngC
  rw [List.length_map, List.length_range]
theorem rngC_get {lo c : Int} {n i : Nat} {x : D} (h : (rngC lo c n)[i]? = some x) : i < n ∧ x = .int (lo + (i : Int) * c) := by
  have hi : i < n := by
    have := (List.getElem?_eq_some_iff.mp h).1
    rw [rngC_len] at this
    exact this
  unfold rngC at h
  rw [List.getElem?_map, List.getElem?_range hi] at h
  cases h
  exact ⟨hi, rfl⟩
section
variable {en : En} {mg : D → En → (En → Prop) → Prop} {mt : M Bool} {me : M D}
/-- each turn gives one of which R holds, or none -/
theorem lc_opt (R : D → Prop) : ∀ (xs : List D) (k : Nat) (acc : List D) (Q : List D → Prop),
    (∀ (i : Nat) x, xs[i]? = some x → ∀ (Qy : D → Prop) (Qn : Prop), (∀ d, R d → Qy d) → Qn → mg x en fun en2 => mt en2 fun b => if b = true then me en2 Qy else Qn) →
    (∀ ds : List D, ds.length ≤ xs.length → (∀ d ∈ ds, R d) → Q (acc ++ ds)) → lcL en mg mt me xs acc Q
  | [], k, acc, Q, _, h => by
    have := h [] (Nat.le_refl _) fun d hd => by cases hd
    rw [List.append_nil] at this
    exact this
  | x :: xs, k, acc, Q, hs, h => by
    refine hs 0 x rfl _ _ (fun d hd => ?_) ?_
    · refine lc_opt R xs (k + 1) _ Q (fun i y hy => hs (i + 1) y hy) fun ds hl hr => ?_
      rw [List.append_assoc]
      refine h (d :: ds) (Nat.succ_le_succ hl) fun z hz => ?_
      rcases List.mem_cons.mp hz with e | hz
      · rw [e]
        exact hd
      · exact hr z hz
    · exact lc_opt R xs (k + 1) _ Q (fun i y hy => hs (i + 1) y hy) fun ds hl hr => h ds (Nat.le_succ_of_le hl) hr
/-- the first that is given -/
theorem lc_first (R : Nat → D → Prop) (Z : Nat → Prop) : ∀ (xs : List D) (k : Nat) (Q : List D → Prop),
    (∀ (i : Nat) x, xs[i]? = some x → ∀ (Qy : D → Prop) (Qn : Prop), (∀ d, R (k + i) d → Qy d) → (Z (k + i) → Qn) → mg x en fun en2 => mt en2 fun b => if b = true then me en2 Qy else Qn) →
    ((∀ j, k ≤ j → j < k + xs.length → Z j) → Q []) →
    (∀ i d r, i < xs.length → R (k + i) d → (∀ j, k ≤ j → j < k + i → Z j) → r.length < xs.length → (∀ e ∈ r, ∃ j, R j e) → Q (d :: r)) → lcL en mg mt me xs [] Q
  | [], k, Q, _, h0, _ => h0 fun j h1 h2 => absurd h2 (by rw [List.length_nil]; omega)
  | x :: xs, k, Q, hs, h0, h1 => by
    refine hs 0 x rfl _ _ (fun d hd => ?_) fun hz => ?_
    · refine lc_opt (fun e => ∃ j, R j e) xs 0 _ Q (fun i y hy Qy Qn a b => hs (i + 1) y hy Qy Qn (fun d hd => a d ⟨_, hd⟩) fun _ => b) fun ds hl hr => ?_
      exact h1 0 d ds (Nat.zero_lt_succ _) hd (fun j a b => absurd b (by omega)) (Nat.lt_succ_of_le hl) hr
    · refine lc_first R Z xs (k + 1) Q (fun i y hy => ?_) (fun hz' => h0 fun j a b => ?_) fun i d r hi hd hz' hl hr => ?_
      · rw [Nat.add_assoc, Nat.add_comm 1 i]
        exact hs (i + 1) y hy
      · by_cases e : j = k
        · rw [e]
          exact hz
        · exact hz' j (by omega) (by rw [List.length_cons] at b; omega)
      · refine h1 (i + 1) d r (Nat.succ_lt_succ hi) ?_ (fun j a b => ?_) (Nat.lt_succ_of_lt hl) hr
        · rw [Nat.add_assoc, Nat.add_comm 1 i] at hd
          exact hd
        · by_cases e : j = k
          · rw [e]
            exact hz
          · exact hz' j (by omega) (by omega)
end
theorem okL_ints (n : Nat) : ∀ ns : List Int, okL n (ns.map .int) = true
  | [] => by cases n <;> rfl
  | x :: xs => by
    show okL n (.int x :: xs.map .int) = true
    unfold okL
    rw [okL_ints n xs]
    cases n <;> rfl
theorem okL_of {n : Nat} : ∀ {ds : List D}, (∀ d ∈ ds, okd n d = true) → okL n ds = true
  | [], _ => by cases n <;> rfl
  | x :: xs, h => by
    unfold okL
    rw [h x List.mem_cons_self, okL_of fun d hd => h d (List.mem_cons_of_mem _ hd)]
    rfl
theorem okd_tup {n : Nat} {ds : List D} (h : ∀ d ∈ ds, okd n d = true) : okd (n + 1) (.tup ds) = true := okL_of h
theorem okd_lst {n : Nat} {ds : List D} (h : ∀ d ∈ ds, okd n d = true) : okd (n + 1) (.lst ds) = true := okL_of h
theorem okd_int {n : Nat} {i : Int} : okd n (.int i) = true := by cases n <;> rfl
theorem deqL_nil_cons (d : D) (r : List D) : deqL (d :: r) [] = false := rfl
theorem okd_up : ∀ {n : Nat} {d : D}, okd n d = true → okd (n + 1) d = true := by
  have aux : ∀ n : Nat, (∀ d : D, okd n d = true → okd (n + 1) d = true) := by
    intro n
    induction n with
    | zero =>
      intro d h
      cases d <;> first | rfl | exact h | (cases h; done)
    | succ n ih =>
      intro d h
      have l : ∀ ds : List D, okL n ds = true → okL (n + 1) ds = true := by
        intro ds
        induction ds with
        | nil => intro _; rfl
        | cons x xs ihx =>
          intro h
          unfold okL at h ⊢
          rw [Bool.and_eq_true] at h ⊢
          exact ⟨ih x h.1, ihx h.2⟩
      cases d with
      | tup xs => exact l xs h
      | lst xs => exact l xs h
      | src => exact h
      | ty _ => exact h
      | _ => first | rfl | exact h
  exact fun {n d} h => aux n d h
theorem okd_le {n m : Nat} {d : D} (h : okd n d = true) (l : n ≤ m) : okd m d = true := by
  induction l with
  | refl => exact h
  | step _ ih => exact okd_up ih
/-! ### sizes of numbers -/
/-- below 2 ^ k in size -/
def Bd (k : Nat) (i : Int) : Prop := i.natAbs < 2 ^ k
instance {k : Nat} {i : Int} : Decidable (Bd k i) := inferInstanceAs (Decidable (_ < _))
theorem Bd.log {k : Nat} {i : Int} (h : Bd k i) : i.natAbs.log2 ≤ k := by
  by_cases h0 : i.natAbs = 0
  · rw [h0]
    exact Nat.zero_le _
  · have := (Nat.log2_lt h0).mpr h
    omega
theorem Bd.mono {k l : Nat} {i : Int} (h : Bd k i) (hl : k ≤ l) : Bd l i := Nat.lt_of_lt_of_le h (Nat.pow_le_pow_right (by decide) hl)
theorem Bd.mulw {k l : Nat} {i j : Int} (h : Bd k i) (h' : Bd l j) (hl : k + l < 1000000 := by decide) : CMulW i j := by
  have a := h.log
  have b := h'.log
  show i.natAbs.log2 + j.natAbs.log2 < 1000000
  omega
theorem Bd.divw {k : Nat} {i j : Int} (h : Bd k j) (h0 : 0 < j) (hl : k < 9000 := by decide) : CDivW i j := ⟨h0, Nat.lt_of_le_of_lt h.log hl⟩
theorem Bd.add {k : Nat} {i j : Int} (h : Bd k i) (h' : Bd k j) : Bd (k + 1) (i + j) := by
  unfold Bd at *
  have := Int.natAbs_add_le i j
  rw [Nat.pow_succ]
  omega
theorem Bd.sub {k : Nat} {i j : Int} (h : Bd k i) (h' : Bd k j) : Bd (k + 1) (i - j) := by
  unfold Bd at *
  have := Int.natAbs_sub_le i j
  rw [Nat.pow_succ]
  omega
theorem Bd.mul {k l : Nat} {i j : Int} (h : Bd k i) (h' : Bd l j) : Bd (k + l) (i * j) := by
  unfold Bd at *
  rw [Int.natAbs_mul, Nat.pow_add]
  exact Nat.mul_lt_mul'' h h'
theorem Bd.of_le {k : Nat} {i b : Int} (h0 : 0 ≤ i) (h : i ≤ b) (hb : Bd k b) : Bd k i := by
  unfold Bd at *
  omega

/-! ### what is shown -/
/-- fit to be shown: depth at most n, at most w signs -/
structure Sh (n w : Nat) (d : D) : Prop where
  ok : okd n d = true
  sh : shw d = true
  sz : sz d ≤ w
theorem Sh.int {n : Nat} {i : Int} (k : Nat) (h : Bd k i) (hk : k < 1920 := by decide) : Sh n (k + 2) (.int i) := by
  refine ⟨okd_int, decide_eq_true (Nat.lt_of_le_of_lt ?_ hk), Nat.add_le_add_right ?_ 2⟩
  · exact h.log
  · exact h.log
theorem szL_le {n w : Nat} : ∀ {ds : List D}, (∀ d ∈ ds, Sh n w d) → shwL ds = true ∧ szL ds ≤ (w + 2) * ds.length
  | [], _ => ⟨rfl, Nat.le_refl _⟩
  | x :: xs, h => by
    obtain ⟨a, b⟩ := szL_le (ds := xs) fun d hd => h d (List.mem_cons_of_mem _ hd)
    have hx := h x List.mem_cons_self
    constructor
    · show (shw x && shwL xs) = true
      rw [hx.sh, a]
      rfl
    · show sz x + 2 + szL xs ≤ (w + 2) * (xs.length + 1)
      rw [Nat.mul_succ]
      have := hx.sz
      omega
theorem Sh.mono {n w w' : Nat} {d : D} (h : Sh n w d) (l : w ≤ w') : Sh n w' d := ⟨h.ok, h.sh, Nat.le_trans h.sz l⟩
theorem Sh.tup {n w l : Nat} {ds : List D} (h : ∀ d ∈ ds, Sh n w d) (hl : ds.length ≤ l) : Sh (n + 1) ((w + 2) * l + 3) (.tup ds) := by
  obtain ⟨a, b⟩ := szL_le h
  refine ⟨okd_tup fun d hd => (h d hd).ok, a, Nat.add_le_add_right (Nat.le_trans b ?_) 3⟩
  exact Nat.mul_le_mul_left _ hl
theorem Sh.lst {n w l : Nat} {ds : List D} (h : ∀ d ∈ ds, Sh n w d) (hl : ds.length ≤ l) : Sh (n + 1) ((w + 2) * l + 3) (.lst ds) := by
  obtain ⟨a, b⟩ := szL_le h
  refine ⟨okd_lst fun d hd => (h d hd).ok, a, Nat.add_le_add_right (Nat.le_trans b ?_) 3⟩
  exact Nat.mul_le_mul_left _ hl
/-- repr(a) != repr(b) where both are the same -/
theorem repr_ne {n w : Nat} {d : D} {ma mb : M D} {en : En} {Q : Bool → Prop} (h : Sh n w d) (ha : ∀ R : D → Prop, R d → ma en R) (hb : ∀ R : D → Prop, R d → mb en R) (q : Q false) (hn : n ≤ 60 := by decide) (hw : w ≤ 16777216 := by decide) :
    mT (m2 mNe (mCall mRepr (aC ma aN)) (mCall mRepr (aC mb aN))) en Q := by
  have o := okd_le h.ok hn
  have z : sz d ≤ sizeLine := Nat.le_trans h.sz (Nat.le_trans hw (by decide))
  refine ha _ ⟨o, h.sh, z, hb _ ⟨o, h.sh, z, ?_⟩⟩
  show Q (!(txt d == txt d))
  rw [beq_self_eq_true]
  exact q
/-! ### common denominators: the loop that every fraction goes through -/
def gcdI (a b : Int) : Int := (Int.gcd a b : Int)
theorem gcdI_step {a b : Int} (hb : 0 < b) (ha : 0 ≤ a) : gcdI b (a % b) = gcdI a b := by
  unfold gcdI
  have e : Int.gcd b (a % b) = Int.gcd a b := by
    rw [Int.gcd_comm a b]
    show Nat.gcd b.natAbs (a % b).natAbs = Nat.gcd b.natAbs a.natAbs
    have e2 : (a % b).natAbs = a.natAbs % b.natAbs := by
      rw [Int.natAbs_emod_of_nonneg ha]
    rw [e2, Nat.gcd_comm b.natAbs (a.natAbs % b.natAbs), ← Nat.gcd_rec]
  rw [e]
theorem gcdI_zero {a : Int} (ha : 0 ≤ a) : gcdI a 0 = a := by
  unfold gcdI
  rw [Int.gcd_zero_right]
  omega
theorem gcdI_pos {a b : Int} (h : 0 < b) : 0 < gcdI a b := by
  unfold gcdI
  have : Int.gcd a b ≠ 0 := fun e => by
    have := (Int.gcd_eq_zero_iff.mp e).2
    omega
  omega
theorem gcdI_le {a b : Int} (h : 0 < b) : gcdI a b ≤ b := by
  unfold gcdI
  exact Int.le_of_dvd h (Int.gcd_dvd_right a b)
end DL
namespace DL
open PySem
section
variable {F : DL.Fin} {en : En} {b : MS}
theorem sqA {md : M D} {j : Nat} (h : md en fun d => b F (en.set j (.d d))) : sSq (sAsg md (gN j)) b F en := h
theorem sqP {ma mb : M D} {i j : Nat} (h : ma en fun x => mb en fun y => b F ((en.set i (.d x)).set j (.d y))) : sSq (sPar i j (aC ma (aC mb aN))) b F en := h
theorem sqI {t : M Bool} {s : MS} (h : t en fun c => if c = true then s { F with nx := fun en' => b F en' } en else b F en) : sSq (sIf t s sNx) b F en := h
theorem addI {i j : Int} {Q : D → Prop} (h : Q (.int (i + j))) : mAdd (.int i) (.int j) Q := h
theorem subI {i j : Int} {Q : D → Prop} (h : Q (.int (i - j))) : mSub (.int i) (.int j) Q := h
theorem gTi {x y : D} {i j : Nat} {Q : En → Prop} (h : Q ((en.set i (.d x)).set j (.d y))) : gT 2 (gC (gN i) (gC (gN j) gE)) (.tup [x, y]) en Q := ⟨rfl, rfl, h⟩
end
end DL
namespace DL
theorem ifn {A B : Prop} (h : B) : if false = true then A else B := h
theorem ify {A B : Prop} (h : A) : if true = true then A else B := by
  rw [if_pos rfl]
  exact h
theorem nxI {F : DL.Fin} {en : En} (h : F.nx en) : sNx F en := h
end DL
namespace DL
open PySem
theorem nxB {F : DL.Fin} {en : En} {b : MS} (h : b F en) : ({ F with nx := fun en' => b F en' } : DL.Fin).nx en := h
theorem isnT {en : En} {Q : D → Prop} (h : Q (.bl false)) : mC (.bl true) en fun y => mIsNot (.bl true) y Q := h
theorem isnF {en : En} {Q : D → Prop} (h : Q (.bl true)) : mC (.bl true) en fun y => mIsNot (.bl false) y Q := h
theorem tupI {en : En} {xs : List D} {Q : D → Prop} (h : Q (.tup xs)) : aN en fun ys => mTuple (.lst xs :: ys) Q := h
end DL
namespace DL
open PySem
section
variable {en : En} {mg : D → En → (En → Prop) → Prop} {mt : M Bool} {me : M D}
/-- each turn gives one where c holds -/
theorem lc_filter (c : Nat → Bool) (w : Nat → D) : ∀ (xs : List D) (k : Nat) (acc : List D) (Q : List D → Prop),
    (∀ (i : Nat) x, xs[i]? = some x → ∀ (Qy : D → Prop) (Qn : Prop), (c (k + i) = true → Qy (w (k + i))) → (c (k + i) = false → Qn) → mg x en fun en2 => mt en2 fun b => if b = true then me en2 Qy else Qn) →
    Q (acc ++ ((List.range' k xs.length).filter c).map w) → lcL en mg mt me xs acc Q
  | [], k, acc, Q, _, h => by
    rw [List.length_nil, List.range'_zero, List.filter_nil, List.map_nil, List.append_nil] at h
    exact h
  | x :: xs, k, acc, Q, hs, h => by
    rw [List.length_cons, List.range'_succ] at h
    refine hs 0 x rfl _ _ (fun e => ?_) fun e => ?_
    · rw [Nat.add_zero] at e ⊢
      rw [List.filter_cons_of_pos e, List.map_cons] at h
      refine lc_filter c w xs (k + 1) _ Q (fun i y hy => ?_) ?_
      · rw [Nat.add_assoc, Nat.add_comm 1 i]
        exact hs (i + 1) y hy
      · rw [List.append_assoc]
        exact h
    · rw [Nat.add_zero] at e
      rw [List.filter_cons_of_neg (by rw [e]; decide)] at h
      refine lc_filter c w xs (k + 1) _ Q (fun i y hy => ?_) h
      rw [Nat.add_assoc, Nat.add_comm 1 i]
      exact hs (i + 1) y hy
end
/-- xs[a:b] -/
theorem cut_mid (xs : List D) (a b : Nat) (h : b ≤ xs.length) (hab : a ≤ b) : cutD xs (some (a : Int)) (some (b : Int)) = (xs.drop a).take (b - a) := by
  unfold cutD
  rw [HT.sIx_nat, HT.sIx_nat, Nat.min_eq_left h, Nat.min_eq_left (Nat.le_trans hab h)]
end DL
namespace DL
open PySem
section
variable {m ma mb : M D} {en : En} {xs : List D} {Q : D → Prop}
/-- xs[a:b], a tuple, a list -/
theorem slT {i j : Int} (a b : Nat) (h1 : ∀ R : D → Prop, R (.tup xs) → m en R) (h2 : ∀ R : D → Prop, R (.int i) → ma en R) (h3 : ∀ R : D → Prop, R (.int j) → mb en R) (hi : i = (a : Int)) (hj : j = (b : Int)) (hb : b ≤ xs.length) (hab : a ≤ b) (q : Q (.tup ((xs.drop a).take (b - a)))) :
    mSl m (oS ma) (oS mb) en Q := by
  refine h1 _ (h2 _ (h3 _ ?_))
  subst hi
  subst hj
  show Q (.tup (cutD xs (some (a : Int)) (some (b : Int))))
  rw [cut_mid xs a b hb hab]
  exact q
theorem slL {i j : Int} (a b : Nat) (h1 : ∀ R : D → Prop, R (.lst xs) → m en R) (h2 : ∀ R : D → Prop, R (.int i) → ma en R) (h3 : ∀ R : D → Prop, R (.int j) → mb en R) (hi : i = (a : Int)) (hj : j = (b : Int)) (hb : b ≤ xs.length) (hab : a ≤ b) (q : Q (.lst ((xs.drop a).take (b - a)))) :
    mSl m (oS ma) (oS mb) en Q := by
  refine h1 _ (h2 _ (h3 _ ?_))
  subst hi
  subst hj
  show Q (.lst (cutD xs (some (a : Int)) (some (b : Int))))
  rw [cut_mid xs a b hb hab]
  exact q
/-- xs[i] -/
theorem ixA {i : Int} {d : D} (a : Nat) (hi : i = (a : Int)) (h : xs[a]? = some d) (q : Q d) : mIx (.tup xs) (.int i) Q := by
  subst hi
  show (match L2.atI xs (a : Int) with | some d => Q d | none => False)
  rw [L2.atI_nat h]
  exact q
theorem ixB {i : Int} {d : D} (a : Nat) (hi : i = (a : Int)) (h : xs[a]? = some d) (q : Q d) : mIx (.lst xs) (.int i) Q := by
  subst hi
  show (match L2.atI xs (a : Int) with | some d => Q d | none => False)
  rw [L2.atI_nat h]
  exact q
end
end DL
namespace DL
open PySem
section
variable {F : DL.Fin} {en : En} {b : MS}
theorem sqA2 {md : M D} {mg : D → En → (En → Prop) → Prop} (h : md en fun d => mg d en fun en' => b F en') : sSq (sAsg md mg) b F en := h
theorem sqA3 {md : M D} {mg : D → En → (En → Prop) → Prop} (h : md en fun d => mg d en fun en' => b F en') : sSq (sAsg md mg) b F en := h
theorem frzT {j : Nat} {m : MS} {d : D} (e : en[j]? = some (.d d)) (h : m F en) : sFrz j m F en := by
  unfold sFrz
  rw [e]
  exact h
theorem frzO {j : Nat} {m : MS} {xs : List D} (e : en[j]? = some (.own xs)) (h : m F (en.set j (.d (.lst xs)))) : sFrz j m F en := by
  unfold sFrz
  rw [e]
  exact h
theorem sqZ {j : Nat} {m : MS} {d : D} (e : en[j]? = some (.d d)) (h : sSq m b F en) : sSq (sFrz j m) b F en := by
  unfold sSq sFrz
  rw [e]
  exact h
end
end DL
namespace DL
open PySem
/-- repr(a) != kept, kept the same text -/
theorem repr_kept {n w : Nat} {d : D} {ma mb : M D} {en : En} {Q : Bool → Prop} (h : Sh n w d) (ha : ∀ R : D → Prop, R d → ma en R) (hb : ∀ R : D → Prop, R (.str (txt d)) → mb en R) (q : Q false) (hn : n ≤ 60 := by decide) (hw : w ≤ 16777216 := by decide) :
    mT (m2 mNe (mCall mRepr (aC ma aN)) mb) en Q := by
  have o := okd_le h.ok hn
  have z : sz d ≤ sizeLine := Nat.le_trans h.sz (Nat.le_trans hw (by decide))
  refine ha _ ⟨o, h.sh, z, hb _ ?_⟩
  show Q (!(txt d == txt d))
  rw [beq_self_eq_true]
  exact q
/-- repr(d) -/
theorem repr_of {n w : Nat} {d : D} {Q : D → Prop} (h : Sh n w d) (q : Q (.str (txt d))) (hn : n ≤ 60 := by decide) (hw : w ≤ 16777216 := by decide) : mRepr [d] Q :=
  ⟨okd_le h.ok hn, h.sh, Nat.le_trans h.sz (Nat.le_trans hw (by decide)), q⟩
end DL
namespace DL
open PySem
section
variable {m ma mb : M D} {en : En} {xs : List D} {F : DL.Fin}
theorem sI {t : M Bool} {s : MS} (h : t en fun c => if c = true then s F en else F.nx en) : sIf t s sNx F en := h
theorem lcI {vs : List Nat} {mi : M (List D)} {mg : D → En → (En → Prop) → Prop} {mt : M Bool} {me : M D} {Q : D → Prop} (h : mi en fun xs => xs.length ≤ sizeLine ∧ lcL (wipeE en vs) mg mt me xs [] fun ys => Q (.lst ys)) : mL (mLc vs mi mg mt me) en Q := h
theorem slS {i j : Int} {Q : List D → Prop} (a b : Nat) (h1 : ∀ R : D → Prop, R (.lst xs) → m en R) (h2 : ∀ R : D → Prop, R (.int i) → ma en R) (h3 : ∀ R : D → Prop, R (.int j) → mb en R) (hi : i = (a : Int)) (hj : j = (b : Int)) (hb : b ≤ xs.length) (hab : a ≤ b) (q : Q ((xs.drop a).take (b - a))) :
    mSeq (mSl m (oS ma) (oS mb)) en Q := slL a b h1 h2 h3 hi hj hb hab q
end
end DL
namespace DL
open PySem
theorem gTi3 {en : En} {x y z : D} {i j l : Nat} {Q : En → Prop} (h : Q (((en.set i (.d x)).set j (.d y)).set l (.d z))) : gT 3 (gC (gN i) (gC (gN j) (gC (gN l) gE))) (.tup [x, y, z]) en Q := ⟨rfl, rfl, h⟩
theorem Sh.up {n w : Nat} {d : D} (h : Sh n w d) : Sh (n + 1) w d := ⟨okd_up h.ok, h.sh, h.sz⟩
end DL
namespace DL
open PySem
section
variable {en : En} {Q : D → Prop} {ma mb mc : M D}
theorem c1I {f : List D → (D → Prop) → Prop} (h : ma en fun x => f [x] Q) : mCall f (aC ma aN) en Q := h
theorem c2I {f : List D → (D → Prop) → Prop} (h : ma en fun x => mb en fun y => f [x, y] Q) : mCall f (aC ma (aC mb aN)) en Q := h
end
end DL
namespace DL
open PySem
theorem deqL_self_of : ∀ (ds : List D), (∀ d ∈ ds, deq d d = true) → deqL ds ds = true
  | [], _ => rfl
  | x :: xs, h => by
    show (deq x x && deqL xs xs) = true
    rw [h x List.mem_cons_self, deqL_self_of xs fun d hd => h d (List.mem_cons_of_mem _ hd)]
    rfl
theorem deq_int (i : Int) : deq (.int i) (.int i) = true := by
  show (i == i) = true
  exact beq_self_eq_true i
theorem deq_fr (a b : Int) : deq (.tup [.int a, .int b]) (.tup [.int a, .int b]) = true := by
  show deqL _ _ = true
  refine deqL_self_of _ fun d hd => ?_
  rcases List.mem_cons.mp hd with e | hd
  · rw [e]
    exact deq_int a
  · rw [List.mem_singleton.mp hd]
    exact deq_int b
section
variable {en : En} {Q : D → Prop} {F : DL.Fin} {b : MS}
theorem isNonI (h : Q (.bl false)) : mC .non en fun y => mIsNot .non y Q := h
theorem isIntI {i : Int} (h : Q (.bl true)) : mC .non en fun y => mIsNot (.int i) y Q := h
theorem sqX {i j : Nat} {mx my : M DL.Slot} (h : mx en fun x => my en fun y => b F ((en.set i x).set j y)) : sSq (sPx i j mx my) b F en := h
end
end DL
namespace DL
open PySem
section
variable {en : En} {j : Nat} {t : M Bool}
theorem powI {i j v : Int} {Q : D → Prop} (c : L2.CPow i j) (hv : i ^ j.toNat = v) (h : Q (.int v)) : m2 mPow (mC (.int i)) (mC (.int j)) en Q := by
  subst hv
  exact ⟨c, h⟩
theorem andNon {Q : Bool → Prop} (e : en[j]? = some (.d .non)) (h : Q false) : mAnd (mT (m2 mIsNot (gV j) (mC .non))) t en Q := by
  unfold mAnd mT m2 gV
  rw [e]
  exact h
theorem andInt {Q : Bool → Prop} {i : Int} (e : en[j]? = some (.d (.int i))) (h : t en Q) : mAnd (mT (m2 mIsNot (gV j) (mC .non))) t en Q := by
  unfold mAnd mT m2 gV
  rw [e]
  exact h
end
end DL
namespace DL
open PySem
section
variable {en : En} {j : Nat} {xs : List D}
theorem xTup {Q : DL.Slot → Prop} (e : en[j]? = some (.own xs)) (h : Q (.d (.tup xs))) : xD (mCall mTuple (aC (gV j) aN)) en Q := by
  unfold xD mCall aC gV
  rw [e]
  exact h
theorem xLen {Q : DL.Slot → Prop} (e : en[j]? = some (.own xs)) (h : Q (.d (.int (xs.length : Int)))) : xD (mCall mLen (aC (gV j) aN)) en Q := by
  unfold xD mCall aC gV
  rw [e]
  exact h
theorem addC {i j : Int} {Q : D → Prop} (h : Q (.int (i + j))) : mC (.int j) en fun y => mAdd (.int i) y Q := h
end
end DL
namespace DL
open PySem
theorem gtI {en : En} {ma mb : M D} {i j : Int} {c : Bool} {Q : D → Prop} (hc : decide (j < i) = c) (ha : ∀ R : D → Prop, R (.int i) → ma en R) (hb : ∀ R : D → Prop, R (.int j) → mb en R) (h : Q (.bl c)) : m2 mGt ma mb en Q := by
  refine ha _ (hb _ ?_)
  show Q (.bl (decide (j < i)))
  rw [hc]
  exact h
end DL
namespace DL
open PySem
section
variable {m ma mb : M D} {en : En} {xs : List D} {Q : D → Prop}
theorem slTo {j : Int} (b : Nat) (h1 : ∀ R : D → Prop, R (.tup xs) → m en R) (h3 : ∀ R : D → Prop, R (.int j) → mb en R) (hj : j = (b : Int)) (hb : b ≤ xs.length) (q : Q (.tup (xs.take b))) : mSl m oN (oS mb) en Q := by
  refine h1 _ (h3 _ ?_)
  subst hj
  show Q (.tup (cutD xs none (some (b : Int))))
  unfold cutD
  rw [HT.sIx_nat, HT.sIx_none, List.drop_zero, Nat.sub_zero, Nat.min_eq_left hb]
  exact q
theorem slFr {i : Int} (a : Nat) (h1 : ∀ R : D → Prop, R (.tup xs) → m en R) (h2 : ∀ R : D → Prop, R (.int i) → ma en R) (hi : i = (a : Int)) (ha : a ≤ xs.length) (q : Q (.tup (xs.drop a))) : mSl m (oS ma) oN en Q := by
  refine h1 _ (h2 _ ?_)
  subst hi
  show Q (.tup (cutD xs (some (a : Int)) none))
  unfold cutD
  rw [HT.sIx_nat, HT.sIx_none, Nat.min_eq_left ha, List.take_of_length_le]
  · exact q
  · rw [List.length_drop]
    omega
end
end DL

set_option Elab.async false
set_option linter.all false
set_option maxRecDepth 100000
namespace DL
open PySem
open L2 (CMulW CDivW CPow atI)
/-! ### the words as equations (none by rfl: the kernel is to read no word by itself) -/
theorem sizeLine_is : (sizeLine : Nat) = 16777216 := rfl
theorem x_ite {p : Prop} [Decidable p] {A B : Prop} : (if p then A else B) = ((p → A) ∧ (¬ p → B)) := by
  by_cases h : p
  · rw [if_pos h]; exact propext ⟨fun a => ⟨fun _ => a, fun n => absurd h n⟩, fun a => a.1 h⟩
  · rw [if_neg h]; exact propext ⟨fun a => ⟨fun n => absurd n h, fun _ => a⟩, fun a => a.2 h⟩
/-- a truth value -/
def bB (d : D) (Q : Bool → Prop) : Prop := match d with | .bl b => Q b | _ => False
def iB (d : D) (Q : Int → Prop) : Prop := match d with | .int b => Q b | _ => False
def ixP (xs : List D) (k : Nat) (Q : D → Prop) : Prop := match xs[k]? with | some d => Q d | none => False
section
variable {F : DL.Fin} {en : En} {a b s : MS} {Q : D → Prop} {QL : List D → Prop} {QB : Bool → Prop} {QE : En → Prop} {m ma mb mc : M D} {mr : M (List D)} {mt mu : M Bool} {mg : D → En → (En → Prop) → Prop} {i j l o : Nat} {x y z : D} {sl : DL.Slot} {xs ys : List D}
theorem x_sSq : sSq a b F en = a { F with nx := fun en' => b F en' } en := propext Iff.rfl
theorem x_sNx : sNx F en = F.nx en := propext Iff.rfl
theorem x_sBk : sBk F en = F.bk en := propext Iff.rfl
theorem x_sCt : sCt F en = F.ct en := propext Iff.rfl
theorem x_sRet : sRet m F en = m en F.rt := propext Iff.rfl
theorem x_sRetN : sRetN F en = F.rt .non := propext Iff.rfl
theorem x_sIf : sIf mt a b F en = mt en fun c => if c = true then a F en else b F en := propext Iff.rfl
theorem x_sAsg : sAsg m mg F en = m en fun d => mg d en F.nx := propext Iff.rfl
theorem x_sOwn {mf : M (List D)} : sOwn mf i F en = mf en fun xs => F.nx (en.set i (.own xs)) := propext Iff.rfl
theorem x_sPar : sPar i j (aC ma (aC mb aN)) F en = ma en fun x => mb en fun y => F.nx ((en.set i (.d x)).set j (.d y)) := propext Iff.rfl
theorem x_sPar3 : sPar3 i j l (aC ma (aC mb (aC mc aN))) F en = ma en fun x => mb en fun y => mc en fun z => F.nx (((en.set i (.d x)).set j (.d y)).set l (.d z)) := propext Iff.rfl
theorem x_sPx {mx my : M DL.Slot} : sPx i j mx my F en = mx en fun x => my en fun y => F.nx ((en.set i x).set j y) := propext Iff.rfl
theorem x_sPx3 {mx my mz : M DL.Slot} : sPx3 i j l mx my mz F en = mx en fun x => my en fun y => mz en fun z => F.nx (((en.set i x).set j y).set l z) := propext Iff.rfl
theorem x_sPx4 {mx my mz mw : M DL.Slot} : sPx4 i j l o mx my mz mw F en = mx en fun x => my en fun y => mz en fun z => mw en fun w => F.nx ((((en.set i x).set j y).set l z).set o w) := propext Iff.rfl
theorem x_xD {QS : DL.Slot → Prop} : xD m en QS = m en fun x => QS (.d x) := propext Iff.rfl
theorem x_xF {mf : M (List D)} {QS : DL.Slot → Prop} : xF mf en QS = mf en fun x => QS (.own x) := propext Iff.rfl
theorem x_sDrop : sDrop m F en = m en fun _ => F.nx en := propext Iff.rfl
theorem x_sFor {mi : M (List D)} : sFor mi mg b F en = mi en fun xs => forL mg b F xs en := propext Iff.rfl
theorem x_sFrz0 : sFrz 0 b F (.own xs :: en) = b F (.d (.lst xs) :: en) := propext Iff.rfl
/-- at a place of the names -/
def atE (en : En) (i : Nat) (K : DL.Slot → Prop) : Prop := match en[i]? with | some s => K s | none => K .u
theorem atE0 {K : DL.Slot → Prop} : atE (sl :: en) 0 K = K sl := propext Iff.rfl
theorem atES {K : DL.Slot → Prop} : atE (sl :: en) (i + 1) K = atE en i K := propext Iff.rfl
def frzS (j : Nat) (b : MS) (F : DL.Fin) (en : En) (s : DL.Slot) : Prop := match s with | .own xs => b F (en.set j (.d (.lst xs))) | _ => b F en
theorem frz_own : frzS j b F en (.own xs) = b F (en.set j (.d (.lst xs))) := propext Iff.rfl
theorem frz_d : frzS j b F en (.d x) = b F en := propext Iff.rfl
theorem frz_u : frzS j b F en .u = b F en := propext Iff.rfl
theorem x_sFrz : sFrz j b F en = atE en j (frzS j b F en) := by
  unfold sFrz atE
  cases h : en[j]? with
  | none => rfl
  | some s => cases s <;> rfl
def slV (Q : D → Prop) (s : DL.Slot) : Prop := match s with | .d x => Q x | .own xs => Q (.lst xs) | _ => False
def slD (Q : D → Prop) (s : DL.Slot) : Prop := match s with | .d x => Q x | _ => False
theorem slV_d : slV Q (.d x) = Q x := propext Iff.rfl
theorem slV_own : slV Q (.own xs) = Q (.lst xs) := propext Iff.rfl
theorem slD_d : slD Q (.d x) = Q x := propext Iff.rfl
def slO (QL : List D → Prop) (s : DL.Slot) : Prop := match s with | .own xs => QL xs | _ => False
theorem slO_own : slO QL (.own xs) = QL xs := propext Iff.rfl
theorem x_sApp : sApp i m F en = atE en i (slO fun xs => m en fun d => xs.length < sizeLine ∧ F.nx (en.set i (.own (xs ++ [d])))) := by
  unfold sApp atE
  cases h : en[i]? with
  | none => rfl
  | some s => cases s <;> rfl
def exB (xs : List D) (QL : List D → Prop) (d : D) : Prop := match d with | .lst ys => xs.length + ys.length ≤ sizeLine ∧ QL (xs ++ ys) | _ => False
theorem exB_lst : exB xs QL (.lst ys) = (xs.length + ys.length ≤ sizeLine ∧ QL (xs ++ ys)) := propext Iff.rfl
theorem x_sExt : sExt i m F en = atE en i (slO fun xs => m en (exB xs fun zs => F.nx (en.set i (.own zs)))) := by
  unfold sExt atE
  cases h : en[i]? with
  | none => rfl
  | some s => cases s <;> rfl
theorem x_sPop : sPop i j F en = atE en i (slO fun xs => match xs[xs.length - 1]? with | some d => F.nx ((en.set i (.own xs.dropLast)).set j (.d d)) | none => False) := by
  unfold sPop atE
  cases h : en[i]? with
  | none => rfl
  | some s => cases s <;> rfl
theorem x_sStx : sStx i ma mb F en = ma en fun d => atE en i (slO fun xs => mb en fun n => iB n fun n => match L2.ixN xs.length n with | some j => F.nx (en.set i (.own (xs.set j d))) | none => False) := by
  unfold sStx atE
  refine congrArg (ma en) (funext fun d => ?_)
  cases h : en[i]? with
  | none => rfl
  | some s => cases s <;> rfl
-- names
theorem x_gV : gV i en Q = atE en i (slV Q) := by
  unfold gV atE
  cases h : en[i]? with
  | none => rfl
  | some s => cases s <;> rfl
theorem x_gD : gD i en Q = atE en i (slD Q) := by
  unfold gD atE
  cases h : en[i]? with
  | none => rfl
  | some s => cases s <;> rfl
theorem x_gN : gN j x en QE = QE (en.set j (.d x)) := propext Iff.rfl
def gTw (n : Nat) (ms : List D → En → (En → Prop) → Prop) (en : En) (QE : En → Prop) (d : D) : Prop := match d with | .tup ds => ds.length = n ∧ ms ds en QE | _ => False
theorem x_gT {n : Nat} {ms : List D → En → (En → Prop) → Prop} : gT n ms (.tup xs) en QE = (xs.length = n ∧ ms xs en QE) := propext Iff.rfl
theorem x_gC {ms : List D → En → (En → Prop) → Prop} : gC mg ms (x :: xs) en QE = mg x en fun en' => ms xs en' QE := propext Iff.rfl
theorem x_gE : gE [] en QE = QE en := propext ⟨fun h => h.2, fun h => ⟨rfl, h⟩⟩
-- expressions
theorem x_mC : mC x en Q = Q x := propext Iff.rfl
theorem x_mL {mf : M (List D)} : mL mf en Q = mf en fun xs => Q (.lst xs) := propext Iff.rfl
theorem x_m1 {op : D → (D → Prop) → Prop} : m1 op ma en Q = ma en fun x => op x Q := propext Iff.rfl
theorem x_m2 {op : D → D → (D → Prop) → Prop} : m2 op ma mb en Q = ma en fun x => mb en fun y => op x y Q := propext Iff.rfl
theorem x_mT : mT m en QB = m en fun d => bB d QB := by
  unfold mT
  exact congrArg (m en) (funext fun d => by cases d <;> rfl)
theorem bB_bl {c : Bool} : bB (.bl c) QB = QB c := propext Iff.rfl
theorem iB_int {c : Int} {QI : Int → Prop} : iB (.int c) QI = QI c := propext Iff.rfl
theorem x_mChain {op op' : D → D → (D → Prop) → Prop} : mChain op op' ma mb mc en Q = ma en fun x => mb en fun y => op x y fun z => bB z fun c => if c = true then mc en fun z => op' y z Q else Q (.bl false) := by
  unfold mChain
  refine congrArg (ma en) (funext fun x => congrArg (mb en) (funext fun y => congrArg (op x y) (funext fun z => ?_)))
  cases z <;> rfl
theorem x_mAnd : mAnd mt mu en QB = mt en fun c => if c = true then mu en QB else QB false := propext Iff.rfl
theorem x_mOr : mOr mt mu en QB = mt en fun c => if c = true then QB true else mu en QB := propext Iff.rfl
theorem x_mNot : mNot mt en QB = mt en fun c => QB (!c) := propext Iff.rfl
theorem x_mAndV : mAndV ma mb en Q = ma en fun x => bB x fun c => if c = true then mb en Q else Q (.bl false) := by
  unfold mAndV
  exact congrArg (ma en) (funext fun d => by cases d <;> rfl)
theorem x_mOrV : mOrV ma mb en Q = ma en fun x => bB x fun c => if c = true then Q (.bl true) else mb en Q := by
  unfold mOrV
  exact congrArg (ma en) (funext fun d => by cases d <;> rfl)
theorem x_mNotV : mNotV ma en Q = ma en fun x => bB x fun c => Q (.bl (!c)) := by
  unfold mNotV
  exact congrArg (ma en) (funext fun d => by cases d <;> rfl)
theorem x_mIte {α : Type} {na nb : M α} {QA : α → Prop} : mIte mt na nb en QA = mt en fun c => if c = true then na en QA else nb en QA := propext Iff.rfl
theorem x_aN : aN en QL = QL [] := propext Iff.rfl
theorem x_aC : aC m mr en QL = m en fun x => mr en fun xs => QL (x :: xs) := propext Iff.rfl
theorem x_mTup : mTup mr en Q = mr en fun xs => xs.length ≤ sizeLine ∧ Q (.tup xs) := propext Iff.rfl
theorem x_mLst : mLst mr en QL = mr en fun xs => xs.length ≤ sizeLine ∧ QL xs := propext Iff.rfl
theorem x_mCall {α : Type} {f : List D → (α → Prop) → Prop} {QA : α → Prop} : mCall f mr en QA = mr en fun ds => f ds QA := propext Iff.rfl
-- operators
theorem x_add {i j : Int} : mAdd (.int i) (.int j) Q = Q (.int (i + j)) := propext Iff.rfl
theorem x_addT : mAdd (.tup xs) (.tup ys) Q = (xs.length + ys.length ≤ sizeLine ∧ Q (.tup (xs ++ ys))) := propext Iff.rfl
theorem x_addL : mAdd (.lst xs) (.lst ys) Q = (xs.length + ys.length ≤ sizeLine ∧ Q (.lst (xs ++ ys))) := propext Iff.rfl
theorem x_sub {i j : Int} : mSub (.int i) (.int j) Q = Q (.int (i - j)) := propext Iff.rfl
theorem x_mul {i j : Int} : mMul (.int i) (.int j) Q = (CMulW i j ∧ Q (.int (i * j))) := propext Iff.rfl
theorem x_div {i j : Int} : mDiv (.int i) (.int j) Q = (CDivW i j ∧ Q (.int (i / j))) := propext Iff.rfl
theorem x_mod {i j : Int} : mMod (.int i) (.int j) Q = (0 < j ∧ Q (.int (i % j))) := propext Iff.rfl
theorem x_pow {i j : Int} : mPow (.int i) (.int j) Q = (CPow i j ∧ Q (.int (i ^ j.toNat))) := propext Iff.rfl
theorem x_shl {i j : Int} : mShl (.int i) (.int j) Q = (CPow i j ∧ Q (.int (i * 2 ^ j.toNat))) := propext Iff.rfl
theorem x_neg {i : Int} : mNeg (.int i) Q = Q (.int (-i)) := propext Iff.rfl
theorem x_lt {i j : Int} : mLt (.int i) (.int j) Q = Q (.bl (decide (i < j))) := propext Iff.rfl
theorem x_le {i j : Int} : mLe (.int i) (.int j) Q = Q (.bl (decide (i ≤ j))) := propext Iff.rfl
theorem x_gt {i j : Int} : mGt (.int i) (.int j) Q = Q (.bl (decide (j < i))) := propext Iff.rfl
theorem x_ge {i j : Int} : mGe (.int i) (.int j) Q = Q (.bl (decide (j ≤ i))) := propext Iff.rfl
theorem tt {p q : Prop} (hp : p) : (p ∧ q) = q := propext ⟨fun h => h.2, fun h => ⟨hp, h⟩⟩
theorem x_eq {i j : Int} : mEq (.int i) (.int j) Q = Q (.bl (decide (i = j))) := by
  have e : mEq (.int i) (.int j) Q = (okd 60 (.int i) = true ∧ okd 60 (.int j) = true ∧ Q (.bl (i == j))) := rfl
  rw [e, tt (by rfl), tt (by rfl)]
  exact congrArg (fun c => Q (.bl c)) (by by_cases h : i = j <;> simp [h])
theorem x_ne {i j : Int} : mNe (.int i) (.int j) Q = Q (.bl (!decide (i = j))) := by
  have e : mNe (.int i) (.int j) Q = (okd 60 (.int i) = true ∧ okd 60 (.int j) = true ∧ Q (.bl (!(i == j)))) := rfl
  rw [e, tt (by rfl), tt (by rfl)]
  exact congrArg (fun c => Q (.bl c)) (by by_cases h : i = j <;> simp [h])
theorem x_eqT : mEq (.tup xs) (.tup ys) Q = (okd 60 (.tup xs) = true ∧ okd 60 (.tup ys) = true ∧ Q (.bl (deqL xs ys))) := propext Iff.rfl
theorem x_neT : mNe (.tup xs) (.tup ys) Q = (okd 60 (.tup xs) = true ∧ okd 60 (.tup ys) = true ∧ Q (.bl (!deqL xs ys))) := propext Iff.rfl
theorem x_eqL : mEq (.lst xs) (.lst ys) Q = (okd 60 (.lst xs) = true ∧ okd 60 (.lst ys) = true ∧ Q (.bl (deqL xs ys))) := propext Iff.rfl
theorem x_neL : mNe (.lst xs) (.lst ys) Q = (okd 60 (.lst xs) = true ∧ okd 60 (.lst ys) = true ∧ Q (.bl (!deqL xs ys))) := propext Iff.rfl
theorem x_eqS {u v : Str} : mEq (.str u) (.str v) Q = Q (.bl (u == v)) := propext Iff.rfl
theorem x_neS {u v : Str} : mNe (.str u) (.str v) Q = Q (.bl (!(u == v))) := propext Iff.rfl
theorem x_eqB {u v : Bool} : mEq (.bl u) (.bl v) Q = Q (.bl (u == v)) := propext ⟨fun h => h.2.2, fun h => ⟨rfl, rfl, h⟩⟩
theorem x_neB {u v : Bool} : mNe (.bl u) (.bl v) Q = Q (.bl (!(u == v))) := propext ⟨fun h => h.2.2, fun h => ⟨rfl, rfl, h⟩⟩
theorem x_is : mIs x .non Q = Q (.bl (isNon x)) := by cases x <;> exact propext Iff.rfl
theorem x_isN : mIsNot x .non Q = Q (.bl (!isNon x)) := by cases x <;> exact propext Iff.rfl
theorem x_isB {u v : Bool} : mIs (.bl u) (.bl v) Q = Q (.bl (decide (u = v))) := propext Iff.rfl
theorem x_isNB {u v : Bool} : mIsNot (.bl u) (.bl v) Q = Q (.bl (!decide (u = v))) := propext Iff.rfl
theorem isNon_non : isNon .non = true := by decide
theorem isNon_int {i : Int} : isNon (.int i) = false := by unfold isNon; simp
theorem isNon_tup : isNon (.tup xs) = false := by unfold isNon; simp
theorem isNon_lst : isNon (.lst xs) = false := by unfold isNon; simp
theorem isNon_str {u : Str} : isNon (.str u) = false := by unfold isNon; simp
theorem isNon_bl {u : Bool} : isNon (.bl u) = false := by unfold isNon; simp
theorem x_inT : mIn x (.tup ys) Q = (flatD x = true ∧ ys.all flatD = true ∧ Q (.bl (ys.any fun y => deq y x))) := propext Iff.rfl
theorem x_inL : mIn x (.lst ys) Q = (okd 60 x = true ∧ okd 60 (.lst ys) = true ∧ Q (.bl (ys.any fun y => deq y x))) := propext Iff.rfl
theorem x_ninT : mNotIn x (.tup ys) Q = (flatD x = true ∧ ys.all flatD = true ∧ Q (.bl (!(ys.any fun y => deq y x)))) := propext Iff.rfl
theorem x_ninL : mNotIn x (.lst ys) Q = (okd 60 x = true ∧ okd 60 (.lst ys) = true ∧ Q (.bl (!(ys.any fun y => deq y x)))) := propext Iff.rfl
-- parts
theorem ix_T {k : Nat} {d : D} (h : xs[k]? = some d) : mIx (.tup xs) (.int (k : Int)) Q = Q d := propext ⟨fun q => by
  have q : (match L2.atI xs (k : Int) with | some d => Q d | none => False) := q
  rw [L2.atI_nat h] at q
  exact q, fun q => ixA k rfl h q⟩
theorem ix_L {k : Nat} {d : D} (h : xs[k]? = some d) : mIx (.lst xs) (.int (k : Int)) Q = Q d := propext ⟨fun q => by
  have q : (match L2.atI xs (k : Int) with | some d => Q d | none => False) := q
  rw [L2.atI_nat h] at q
  exact q, fun q => ixB k rfl h q⟩
theorem x_ix0 : mIx (.tup (x :: xs)) (.int 0) Q = Q x := ix_T (k := 0) rfl
theorem x_ix1 : mIx (.tup (x :: y :: xs)) (.int 1) Q = Q y := ix_T (k := 1) rfl
theorem x_ix2 : mIx (.tup (x :: y :: z :: xs)) (.int 2) Q = Q z := ix_T (k := 2) rfl
theorem x_ixl0 : mIx (.lst (x :: xs)) (.int 0) Q = Q x := ix_L (k := 0) rfl
theorem x_ixl1 : mIx (.lst (x :: y :: xs)) (.int 1) Q = Q y := ix_L (k := 1) rfl
theorem x_ixl2 : mIx (.lst (x :: y :: z :: xs)) (.int 2) Q = Q z := ix_L (k := 2) rfl
theorem x_ixl3 {w : D} : mIx (.lst (x :: y :: z :: w :: xs)) (.int 3) Q = Q w := ix_L (k := 3) rfl
def oB (d : D) (Q : Option Int → Prop) : Prop := match d with | .int i => Q (some i) | _ => False
theorem oB_int {c : Int} {QO : Option Int → Prop} : oB (.int c) QO = QO (some c) := propext Iff.rfl
theorem x_oN {QO : Option Int → Prop} : oN en QO = QO none := propext Iff.rfl
theorem x_oS {QO : Option Int → Prop} : oS m en QO = m en fun d => oB d QO := by
  unfold oS
  exact congrArg (m en) (funext fun d => by cases d <;> rfl)
def slB (x : D) (l h : Option Int) (Q : D → Prop) : Prop := match x with | .lst xs => Q (.lst (cutD xs l h)) | .tup xs => Q (.tup (cutD xs l h)) | _ => False
theorem slB_lst {u v : Option Int} : slB (.lst xs) u v Q = Q (.lst (cutD xs u v)) := propext Iff.rfl
theorem slB_tup {u v : Option Int} : slB (.tup xs) u v Q = Q (.tup (cutD xs u v)) := propext Iff.rfl
theorem x_mSl {ml mh : M (Option Int)} : mSl m ml mh en Q = m en fun x => ml en fun l => mh en fun h => slB x l h Q := by
  unfold mSl
  exact congrArg (m en) (funext fun d => by cases d <;> rfl)
def lB (x : D) (QL : List D → Prop) : Prop := match x with | .lst xs => QL xs | _ => False
theorem lB_lst : lB (.lst xs) QL = QL xs := propext Iff.rfl
theorem x_mSlF {ml mh : M (Option Int)} : mSlF m ml mh en QL = m en fun x => ml en fun l => mh en fun h => lB x fun xs => QL (cutD xs l h) := by
  unfold mSlF
  exact congrArg (m en) (funext fun d => by cases d <;> rfl)
theorem x_mRev : mRev m en QL = m en fun x => lB x fun xs => QL xs.reverse := by
  unfold mRev
  exact congrArg (m en) (funext fun d => by cases d <;> rfl)
def rvB (x : D) (Q : D → Prop) : Prop := match x with | .lst xs => Q (.lst xs.reverse) | .tup xs => Q (.tup xs.reverse) | _ => False
theorem rvB_lst : rvB (.lst xs) Q = Q (.lst xs.reverse) := propext Iff.rfl
theorem rvB_tup : rvB (.tup xs) Q = Q (.tup xs.reverse) := propext Iff.rfl
theorem x_mRevB : mRevB m en Q = m en fun x => rvB x Q := by
  unfold mRevB
  exact congrArg (m en) (funext fun d => by cases d <;> rfl)
theorem x_mCatF : mCatF ma mb en QL = ma en fun x => mb en fun y => lB x fun xs => lB y fun ys => xs.length + ys.length ≤ sizeLine ∧ QL (xs ++ ys) := by
  unfold mCatF
  refine congrArg (ma en) (funext fun d => congrArg (mb en) (funext fun e => ?_))
  cases d <;> cases e <;> rfl
theorem x_mRepF : mRepF ma mb en QL = ma en fun x => mb en fun y => lB x fun xs => iB y fun j => -(2 ^ 63) ≤ j ∧ j < 2 ^ 63 ∧ xs.length * j.toNat ≤ sizeLine ∧ QL (List.replicate j.toNat xs).flatten := by
  unfold mRepF
  refine congrArg (ma en) (funext fun d => congrArg (mb en) (funext fun e => ?_))
  cases d <;> cases e <;> rfl
theorem x_mulL {j : Int} : mMul (.lst xs) (.int j) Q = (-(2 ^ 63) ≤ j ∧ j < 2 ^ 63 ∧ xs.length * j.toNat ≤ sizeLine ∧ Q (.lst (List.replicate j.toNat xs).flatten)) := propext Iff.rfl
theorem x_mulB {i j : Int} : mMulB (.int i) (.int j) Q = (CMulW i j ∧ Q (.int (i * j))) := propext Iff.rfl
theorem x_mulBT {j : Int} : mMulB (.tup xs) (.int j) Q = (xs ≠ [] ∧ -(2 ^ 63) ≤ j ∧ j ≤ 1000 ∧ xs.length ≤ 1000 ∧ Q (.tup (List.replicate j.toNat xs).flatten)) := propext Iff.rfl
-- built-in functions
theorem x_lenL : mLen [.lst xs] Q = Q (.int xs.length) := propext Iff.rfl
theorem x_lenT : mLen [.tup xs] Q = Q (.int xs.length) := propext Iff.rfl
theorem x_abs {i : Int} : mAbs [.int i] Q = Q (.int (if i < 0 then -i else i)) := propext Iff.rfl
theorem x_int {i : Int} : mInt [.int i] Q = Q (.int i) := propext Iff.rfl
theorem x_intB {c : Bool} : mInt [.bl c] Q = Q (.int (if c then 1 else 0)) := propext Iff.rfl
theorem x_max2 {i j : Int} : mMax2 [.int i, .int j] Q = Q (.int (max i j)) := by
  have e : mMax2 [.int i, .int j] Q = Q (.int (if j > i then j else i)) := rfl
  rw [e]
  refine congrArg (fun c => Q (.int c)) ?_
  split <;> omega
theorem x_min2 {i j : Int} : mMin2 [.int i, .int j] Q = Q (.int (min i j)) := by
  have e : mMin2 [.int i, .int j] Q = Q (.int (if j < i then j else i)) := rfl
  rw [e]
  refine congrArg (fun c => Q (.int c)) ?_
  split <;> omega
theorem x_tupL : mTuple [.lst xs] Q = Q (.tup xs) := propext Iff.rfl
theorem x_tupT : mTuple [.tup xs] Q = Q (.tup xs) := propext Iff.rfl
theorem x_lstL : mList [.lst xs] QL = QL xs := propext Iff.rfl
theorem x_lstT : mList [.tup xs] QL = QL xs := propext Iff.rfl
theorem x_sum {ns : List Int} : mSum [.lst (ns.map .int)] Q = Q (.int ns.sum) := by
  have e : mSum [.lst (ns.map .int)] Q = (match ints? (ns.map .int) with | some ns => Q (.int ns.sum) | none => False) := rfl
  rw [e, ints?_map]
theorem x_sumT {ns : List Int} : mSum [.tup (ns.map .int)] Q = Q (.int ns.sum) := by
  have e : mSum [.tup (ns.map .int)] Q = (match ints? (ns.map .int) with | some ns => Q (.int ns.sum) | none => False) := rfl
  rw [e, ints?_map]
theorem x_any {ns : List Bool} : mAny [.lst (ns.map .bl)] Q = Q (.bl (ns.any id)) := by
  have e : mAny [.lst (ns.map .bl)] Q = (match bls? (ns.map .bl) with | some ns => Q (.bl (ns.any id)) | none => False) := rfl
  rw [e, bls?_map]
theorem x_all {ns : List Bool} : mAll [.lst (ns.map .bl)] Q = Q (.bl (ns.all id)) := by
  have e : mAll [.lst (ns.map .bl)] Q = (match bls? (ns.map .bl) with | some ns => Q (.bl (ns.all id)) | none => False) := rfl
  rw [e, bls?_map]
theorem x_repr : mRepr [x] Q = (okd 60 x = true ∧ shw x = true ∧ sz x ≤ sizeLine ∧ Q (.str (txt x))) := propext Iff.rfl
theorem x_reprE : mReprE [x] Q = (rpE 60 x = true ∧ sz x ≤ sizeLine ∧ Q (.str (txt x))) := propext Iff.rfl
theorem repr_eq {n w : Nat} (h : Sh n w x) (hn : n ≤ 60 := by decide) (hw : w ≤ 16777216 := by decide) : mReprE [x] Q = Q (.str (txt x)) := by
  rw [x_reprE]
  exact propext ⟨fun k => k.2.2, fun k => ⟨rpE_of 60 x (okd_le h.ok hn) h.sh, Nat.le_trans h.sz hw, k⟩⟩
theorem x_pick {n : Int} : pickM [.src, .int n] Q = (n.natAbs.log2 < 9000 ∧ ∀ r : Int, 0 ≤ r → r < max 1 n → Q (.int r)) := propext Iff.rfl
-- what is walked
theorem x_mSeq : mSeq m en QL = m en fun x => match x with | .lst xs => QL xs | .tup xs => QL xs | _ => False := propext Iff.rfl
def sqB (x : D) (QL : List D → Prop) : Prop := match x with | .lst xs => QL xs | .tup xs => QL xs | _ => False
theorem sqB_lst : sqB (.lst xs) QL = QL xs := propext Iff.rfl
theorem sqB_tup : sqB (.tup xs) QL = QL xs := propext Iff.rfl
theorem x_mSeqB : mSeq m en QL = m en fun x => sqB x QL := by
  unfold mSeq
  exact congrArg (m en) (funext fun d => by cases d <;> rfl)
def r1B (ds : List D) (QL : List D → Prop) : Prop := match ds with | [.int j] => rOk j ∧ QL (rng 0 j.toNat) | _ => False
theorem r1B_ {j : Int} : r1B [.int j] QL = (rOk j ∧ QL (rng 0 j.toNat)) := propext Iff.rfl
theorem x_mR1 : mR1 (aC m aN) en QL = m en fun x => r1B [x] QL := by
  unfold mR1 aC aN
  exact congrArg (m en) (funext fun d => by cases d <;> rfl)
def r2B (x y : D) (QL : List D → Prop) : Prop := match x, y with | .int i, .int j => rOk i ∧ rOk j ∧ QL (rng i (j - i).toNat) | _, _ => False
theorem r2B_ {i j : Int} : r2B (.int i) (.int j) QL = (rOk i ∧ rOk j ∧ QL (rng i (j - i).toNat)) := propext Iff.rfl
theorem x_mR2 : mR2 (aC ma (aC mb aN)) en QL = ma en fun x => mb en fun y => r2B x y QL := by
  unfold mR2 aC aN
  refine congrArg (ma en) (funext fun d => congrArg (mb en) (funext fun e => ?_))
  cases d <;> cases e <;> rfl
theorem x_mEnumL : mEnumB (aC m aN) en QL = m en fun x => sqB x fun xs => QL (enumD 0 xs) := by
  unfold mEnumB aC aN
  exact congrArg (m en) (funext fun d => by cases d <;> rfl)
def zpB (x y : D) (QL : List D → Prop) : Prop := match x, y with | .lst xs, .lst ys => QL (zipD xs ys) | .tup xs, .tup ys => QL (zipD xs ys) | _, _ => False
theorem zpB_l : zpB (.lst xs) (.lst ys) QL = QL (zipD xs ys) := propext Iff.rfl
theorem zpB_t : zpB (.tup xs) (.tup ys) QL = QL (zipD xs ys) := propext Iff.rfl
theorem x_mZip : mZip (aC ma (aC mb aN)) en QL = ma en fun x => mb en fun y => zpB x y QL := by
  unfold mZip aC aN
  refine congrArg (ma en) (funext fun d => congrArg (mb en) (funext fun e => ?_))
  cases d <;> cases e <;> rfl
theorem x_rg1 {QI : Int → Int → Prop} : rg1 m en QI = m en fun d => iB d (QI 0) := by
  unfold rg1
  exact congrArg (m en) (funext fun d => by cases d <;> rfl)
theorem x_rg2 {QI : Int → Int → Prop} : rg2 ma mb en QI = ma en fun d => mb en fun e => iB d fun i => iB e (QI i) := by
  unfold rg2
  refine congrArg (ma en) (funext fun d => congrArg (mb en) (funext fun e => ?_))
  cases d <;> cases e <;> rfl
theorem x_mLRg {rg : En → (Int → Int → Prop) → Prop} : mLRg rg en QL = rg en fun i j => L2.RgOk i j ∧ QL (rgD i j) := propext Iff.rfl
theorem x_mTRg {rg : En → (Int → Int → Prop) → Prop} : mTRg rg en Q = rg en fun i j => L2.RgOk i j ∧ Q (.tup (rgD i j)) := propext Iff.rfl
theorem x_mLc {vs : List Nat} {mi : M (List D)} : mLc vs mi mg mt m en QL = mi en fun xs => xs.length ≤ sizeLine ∧ lcL (wipeE en vs) mg mt m xs [] QL := propext Iff.rfl
theorem wipe1 {v : Nat} : wipeE en [v] = en.set v .u := rfl
theorem wipe2 {v w : Nat} : wipeE en [v, w] = (en.set w .u).set v .u := rfl
theorem wipe3 {u v w : Nat} : wipeE en [u, v, w] = ((en.set w .u).set v .u).set u .u := rfl
theorem x_tTrue : tTrue en QB = QB true := propext Iff.rfl
theorem x_fnM {n l : Nat} : fnM n l s xs Q = (xs.length = n ∧ s { nx := fun _ => Q .non, rt := Q } (xs.map .d ++ List.replicate (l - n) .u)) := propext Iff.rfl
theorem lc_nil {acc : List D} : lcL en mg mt m [] acc QL = QL acc := propext Iff.rfl
theorem lc_cons {acc : List D} : lcL en mg mt m (x :: xs) acc QL = mg x en fun en2 => mt en2 fun b => if b = true then m en2 fun d => lcL en mg mt m xs (acc ++ [d]) QL else lcL en mg mt m xs acc QL := propext Iff.rfl
theorem for_nil : forL mg b F [] en = F.nx en := propext Iff.rfl
theorem for_cons : forL mg b F (x :: xs) en = mg x en fun en2 => b { F with nx := forL mg b F xs, ct := forL mg b F xs, bk := F.nx } en2 := propext Iff.rfl
theorem deq_ii {i j : Int} : deq (.int i) (.int j) = decide (i = j) := by
  have e : deq (.int i) (.int j) = (i == j) := rfl
  rw [e]; by_cases h : i = j <;> simp [h]
theorem deqL_cc : deqL (x :: xs) (y :: ys) = (deq x y && deqL xs ys) := by rw [deqL]
theorem deqL_nn : deqL [] [] = true := by rw [deqL]
theorem deq_tt : deq (.tup xs) (.tup ys) = deqL xs ys := by rw [deq]
theorem deq_ll : deq (.lst xs) (.lst ys) = deqL xs ys := by rw [deq]
theorem rOk_nat {n : Nat} (h : n < 2 ^ 61) : rOk (n : Int) := by unfold rOk; omega
end
end DL

set_option Elab.async false
set_option linter.all false
set_option maxRecDepth 100000
namespace DL
open PySem
open L2 (CMulW CDivW CPow atI)
/-! ### fractions are rationals -/
def qD (r : Rat) : D := .tup [.int r.num, .int (r.den : Int)]
theorem log_lt {n : Int} (h : n.natAbs < 2 ^ 60) : n.natAbs.log2 < 9000 := Nat.lt_of_le_of_lt (Bd.log (k := 60) h) (by decide)
theorem euclid {F : DL.Fin} {mt : M Bool} {body : MS} {s0 s1 : DL.Slot}
    (ht : ∀ (a b : Int) (Q : Bool → Prop), 0 ≤ b → Q (decide (0 < b)) → mt [s0, s1, .d (.int a), .d (.int b)] Q)
    (hb : ∀ (F : DL.Fin) (a b : Int), 0 < b → F.nx [s0, s1, .d (.int b), .d (.int (a % b))] → body F [s0, s1, .d (.int a), .d (.int b)])
    {a b : Int} (ha : 0 ≤ a) (h0 : 0 ≤ b) (h : F.nx [s0, s1, .d (.int (gcdI a b)), .d (.int 0)]) : sWh mt body F [s0, s1, .d (.int a), .d (.int b)] := by
  refine while_of (fun n en => ∃ a b : Int, 0 ≤ a ∧ 0 ≤ b ∧ b.toNat = n ∧ F.nx [s0, s1, .d (.int (gcdI a b)), .d (.int 0)] ∧ en = [s0, s1, .d (.int a), .d (.int b)]) ⟨a, b, ha, h0, rfl, h, rfl⟩ ?_
  rintro n en ⟨a, b, ha, h0, hn, h, rfl⟩ N hN
  refine ht a b _ h0 ?_
  refine ifD (fun hp => ?_) fun hp => ?_
  · refine hb _ a b hp (hN (a % b).toNat _ ?_ ⟨b, a % b, h0, Int.emod_nonneg _ (by omega), rfl, ?_, rfl⟩)
    · have := Int.emod_lt_of_pos a hp
      have := Int.emod_nonneg a (show b ≠ 0 by omega)
      omega
    · rw [gcdI_step hp ha]
      exact h
  · have e : b = 0 := by omega
    subst e
    rw [gcdI_zero ha] at h
    exact h
theorem gcdI_abs (p q : Int) : gcdI (p.natAbs : Int) q = (Int.gcd q p : Int) := by
  unfold gcdI
  rw [Int.gcd_comm q p]
  show ((Nat.gcd (p.natAbs : Int).natAbs q.natAbs : Nat) : Int) = ((Nat.gcd p.natAbs q.natAbs : Nat) : Int)
  rw [Int.natAbs_natCast]
theorem low_num {p q : Int} (h : 0 < q) : p / gcdI (p.natAbs : Int) q = (Rat.divInt p q).num := by
  rw [Rat.num_divInt, Int.sign_eq_one_of_pos h, Int.one_mul, gcdI_abs]
theorem low_den {p q : Int} (h : 0 < q) : q / gcdI (p.natAbs : Int) q = ((Rat.divInt p q).den : Int) := by
  rw [Rat.den_divInt, if_neg (by omega), gcdI_abs]
  rw [Int.natCast_ediv]
  congr 1
  omega
theorem abs_if (p : Int) : (if p < 0 then -p else p) = (p.natAbs : Int) := by split <;> omega
theorem abs_max (p : Int) : max p (0 - p) = (p.natAbs : Int) := by omega
theorem low_eq {p q : Int} (h : 0 < q) : D.tup [.int (p / gcdI (p.natAbs : Int) q), .int (q / gcdI (p.natAbs : Int) q)] = qD (Rat.divInt p q) := by
  unfold qD
  rw [low_num h, low_den h]
/-- sizes -/
structure Bq (k : Nat) (r : Rat) : Prop where
  n : Bd k r.num
  d : Bd k (r.den : Int)
theorem Bd.dvd {k : Nat} {p g : Int} (h : Bd k p) (hg : 0 < g) : Bd k (p / g) := by
  unfold Bd at *
  have : (p / g).natAbs ≤ p.natAbs := by
    have := Int.natAbs_ediv_le_natAbs p g
    exact this
  omega
theorem Bd.natAbs {k : Nat} {p : Int} (h : Bd k p) : Bd k (p.natAbs : Int) := by
  unfold Bd at *
  omega
theorem Bq.low {k : Nat} {p q : Int} (h : Bd k p) (h' : Bd k q) (h0 : 0 < q) : Bq k (Rat.divInt p q) := ⟨by
  rw [← low_num h0]
  exact h.dvd (gcdI_pos h0), by
  rw [← low_den h0]
  exact h'.dvd (gcdI_pos h0)⟩
theorem Bq.mono {k l : Nat} {r : Rat} (h : Bq k r) (hl : k ≤ l) : Bq l r := ⟨h.n.mono hl, h.d.mono hl⟩
theorem Bq.dp {r : Rat} : 0 < (r.den : Int) := Int.natCast_pos.mpr r.den_pos
theorem add_low (x y : Rat) : Rat.divInt (x.num * (y.den : Int) + y.num * (x.den : Int)) ((x.den : Int) * (y.den : Int)) = x + y := by
  rw [Rat.add_def', ← Rat.divInt_ofNat, Int.natCast_mul]
theorem sub_low (x y : Rat) : Rat.divInt (x.num * (y.den : Int) - y.num * (x.den : Int)) ((x.den : Int) * (y.den : Int)) = x - y := by
  rw [Rat.sub_def', ← Rat.divInt_ofNat, Int.natCast_mul]
theorem mul_low (x y : Rat) : Rat.divInt (x.num * y.num) ((x.den : Int) * (y.den : Int)) = x * y := by
  rw [Rat.mul_def', ← Rat.divInt_ofNat, Int.natCast_mul]
theorem div_low (x y : Rat) : Rat.divInt (x.num * (y.den : Int)) ((x.den : Int) * y.num) = x / y := by
  rw [Rat.div_def, Rat.inv_def]
  conv => rhs; rw [← Rat.num_divInt_den x]
  rw [Rat.divInt_mul_divInt]
theorem den_pp (x y : Rat) : 0 < (x.den : Int) * (y.den : Int) := Int.mul_pos Bq.dp Bq.dp
theorem num_pos {y : Rat} (h : 0 < y) : 0 < y.num := by
  have := (Rat.lt_iff 0 y).mp h
  simpa using this
theorem Bq.add {k l : Nat} {x y : Rat} (h : Bq k x) (h' : Bq l y) : Bq (k + l + 1) (x + y) := by
  rw [← add_low]
  refine Bq.low ?_ (((h.d.mul h'.d)).mono (by omega)) (den_pp x y)
  exact Bd.add (k := k + l) (h.n.mul h'.d) ((h'.n.mul h.d).mono (by omega))
theorem Bq.sub {k l : Nat} {x y : Rat} (h : Bq k x) (h' : Bq l y) : Bq (k + l + 1) (x - y) := by
  rw [← sub_low]
  refine Bq.low ?_ (((h.d.mul h'.d)).mono (by omega)) (den_pp x y)
  exact Bd.sub (k := k + l) (h.n.mul h'.d) ((h'.n.mul h.d).mono (by omega))
theorem Bq.mul {k l : Nat} {x y : Rat} (h : Bq k x) (h' : Bq l y) : Bq (k + l) (x * y) := by
  rw [← mul_low]
  exact Bq.low (h.n.mul h'.n) (h.d.mul h'.d) (den_pp x y)
theorem Bq.div {k l : Nat} {x y : Rat} (h : Bq k x) (h' : Bq l y) (h0 : 0 < y) : Bq (k + l) (x / y) := by
  rw [← div_low]
  exact Bq.low (h.n.mul h'.d) (h.d.mul h'.n) (Int.mul_pos Bq.dp (num_pos h0))
theorem Bq.int {k : Nat} {i : Int} (h : Bd k i) (hk : 0 < k := by decide) : Bq k (i : Rat) := ⟨by rw [Rat.num_intCast]; exact h, by
  rw [Rat.den_intCast]
  exact Nat.one_lt_two_pow (by omega)⟩
/-- comparisons -/
theorem lt_dec (x y : Rat) : decide (x.num * (y.den : Int) < y.num * (x.den : Int)) = decide (x < y) := decide_eq_decide.mpr (Rat.lt_iff x y).symm
theorem le_dec (x y : Rat) : decide (x.num * (y.den : Int) ≤ y.num * (x.den : Int)) = decide (x ≤ y) := decide_eq_decide.mpr (Rat.le_iff x y).symm
theorem q_ext {x y : Rat} : (x.num = y.num ∧ (x.den : Int) = (y.den : Int)) = (x = y) := propext ⟨fun h => Rat.ext h.1 (by omega), fun h => by subst h; exact ⟨rfl, rfl⟩⟩
theorem deq_q {x y : Rat} : deqL [.int x.num, .int (x.den : Int)] [.int y.num, .int (y.den : Int)] = decide (x = y) := by
  rw [deqL_cc, deqL_cc, deqL_nn, deq_ii, deq_ii, Bool.and_true, ← Bool.decide_and]
  exact decide_eq_decide.mpr (by rw [q_ext])
theorem deq_qD {x y : Rat} : deq (qD x) (qD y) = decide (x = y) := by
  unfold qD
  rw [deq_tt, deq_q]
theorem okd_qD {n : Nat} {x : Rat} : okd (n + 1) (qD x) = true := okd_tup fun d hd => by
  rcases List.mem_cons.mp hd with e | hd
  · rw [e]
    exact okd_int
  · rw [List.mem_singleton.mp hd]
    exact okd_int
theorem qD_sh {k : Nat} {r : Rat} (h : Bq k r) (hk : k < 1920 := by decide) : Sh 1 (2 * k + 11) (qD r) := by
  refine (Sh.tup (n := 0) (w := k + 2) (l := 2) (ds := [.int r.num, .int (r.den : Int)]) (fun d hd => ?_) (Nat.le_refl 2)).mono (by omega)
  rcases List.mem_cons.mp hd with e | hd
  · rw [e]
    exact Sh.int k h.n hk
  · rw [List.mem_singleton.mp hd]
    exact Sh.int k h.d hk
section
variable {Q : D → Prop} {x y : Rat}
theorem isNon_q : isNon (qD x) = false := isNon_tup
theorem q_ix0 : mIx (qD x) (.int 0) Q = Q (.int x.num) := x_ix0
theorem q_ix1 : mIx (qD x) (.int 1) Q = Q (.int (x.den : Int)) := x_ix1
theorem q_eq : mEq (qD x) (qD y) Q = Q (.bl (decide (x = y))) := by
  unfold qD
  rw [x_eqT, tt (show okd 60 (.tup [.int x.num, .int (x.den : Int)]) = true from okd_qD (n := 59) (x := x)), tt (show okd 60 (.tup [.int y.num, .int (y.den : Int)]) = true from okd_qD (n := 59) (x := y)), deq_q]
theorem q_ne : mNe (qD x) (qD y) Q = Q (.bl (!decide (x = y))) := by
  unfold qD
  rw [x_neT, tt (show okd 60 (.tup [.int x.num, .int (x.den : Int)]) = true from okd_qD (n := 59) (x := x)), tt (show okd 60 (.tup [.int y.num, .int (y.den : Int)]) = true from okd_qD (n := 59) (x := y)), deq_q]
theorem q_isN : mIsNot (qD x) .non Q = Q (.bl true) := by rw [x_isN]; exact propext Iff.rfl
theorem q_is : mIs (qD x) .non Q = Q (.bl false) := by rw [x_is]; exact propext Iff.rfl
end
end DL

set_option Elab.async false
set_option linter.all false
set_option maxRecDepth 100000
namespace DL
open PySem
theorem cast_0 : ((0 : Nat) : Int) = 0 := rfl
theorem cast_1 : ((1 : Nat) : Int) = 1 := rfl
theorem cast_2 : ((2 : Nat) : Int) = 2 := rfl
theorem cast_3 : ((3 : Nat) : Int) = 3 := rfl
theorem x_flatF {f : List D → (D → Prop) → Prop} {ds : List D} {Q : D → Prop} : flatF f ds Q = f ds fun d => flatD d = true ∧ Q d := propext Iff.rfl
theorem flat_bl {b : Bool} : (flatD (.bl b) = true) = True := propext ⟨fun _ => trivial, fun _ => rfl⟩
theorem flat_int {b : Int} : (flatD (.int b) = true) = True := propext ⟨fun _ => trivial, fun _ => rfl⟩
theorem flat_non : (flatD .non = true) = True := propext ⟨fun _ => trivial, fun _ => rfl⟩
/-- isinstance -/
theorem isi_int_non {Q : D → Prop} : mIsi [.non, .ty "int"] Q = Q (.bl false) := by
  have e : mIsi [.non, .ty "int"] Q = (isTy .non = false ∧ (match L2.kitB (tyN .non) "int" with | some b => Q (.bl b) | none => False)) := rfl
  have k : L2.kitB (tyN .non) "int" = some false := by first | rfl | decide +kernel
  rw [e, k, tt (by rfl)]
theorem isi_int_bl {p : Bool} {Q : D → Prop} : mIsi [(.bl p), .ty "int"] Q = Q (.bl true) := by
  have e : mIsi [(.bl p), .ty "int"] Q = (isTy (.bl p) = false ∧ (match L2.kitB (tyN (.bl p)) "int" with | some b => Q (.bl b) | none => False)) := rfl
  have k : L2.kitB (tyN (.bl p)) "int" = some true := by first | rfl | decide +kernel
  rw [e, k, tt (by rfl)]
theorem isi_int_int {i : Int} {Q : D → Prop} : mIsi [(.int i), .ty "int"] Q = Q (.bl true) := by
  have e : mIsi [(.int i), .ty "int"] Q = (isTy (.int i) = false ∧ (match L2.kitB (tyN (.int i)) "int" with | some b => Q (.bl b) | none => False)) := rfl
  have k : L2.kitB (tyN (.int i)) "int" = some true := by first | rfl | decide +kernel
  rw [e, k, tt (by rfl)]
theorem isi_int_str {s : Str} {Q : D → Prop} : mIsi [(.str s), .ty "int"] Q = Q (.bl false) := by
  have e : mIsi [(.str s), .ty "int"] Q = (isTy (.str s) = false ∧ (match L2.kitB (tyN (.str s)) "int" with | some b => Q (.bl b) | none => False)) := rfl
  have k : L2.kitB (tyN (.str s)) "int" = some false := by first | rfl | decide +kernel
  rw [e, k, tt (by rfl)]
theorem isi_int_tup {xs : List D} {Q : D → Prop} : mIsi [(.tup xs), .ty "int"] Q = Q (.bl false) := by
  have e : mIsi [(.tup xs), .ty "int"] Q = (isTy (.tup xs) = false ∧ (match L2.kitB (tyN (.tup xs)) "int" with | some b => Q (.bl b) | none => False)) := rfl
  have k : L2.kitB (tyN (.tup xs)) "int" = some false := by first | rfl | decide +kernel
  rw [e, k, tt (by rfl)]
theorem isi_int_lst {xs : List D} {Q : D → Prop} : mIsi [(.lst xs), .ty "int"] Q = Q (.bl false) := by
  have e : mIsi [(.lst xs), .ty "int"] Q = (isTy (.lst xs) = false ∧ (match L2.kitB (tyN (.lst xs)) "int" with | some b => Q (.bl b) | none => False)) := rfl
  have k : L2.kitB (tyN (.lst xs)) "int" = some false := by first | rfl | decide +kernel
  rw [e, k, tt (by rfl)]
theorem isi_bool_non {Q : D → Prop} : mIsi [.non, .ty "bool"] Q = Q (.bl false) := by
  have e : mIsi [.non, .ty "bool"] Q = (isTy .non = false ∧ (match L2.kitB (tyN .non) "bool" with | some b => Q (.bl b) | none => False)) := rfl
  have k : L2.kitB (tyN .non) "bool" = some false := by first | rfl | decide +kernel
  rw [e, k, tt (by rfl)]
theorem isi_bool_bl {p : Bool} {Q : D → Prop} : mIsi [(.bl p), .ty "bool"] Q = Q (.bl true) := by
  have e : mIsi [(.bl p), .ty "bool"] Q = (isTy (.bl p) = false ∧ (match L2.kitB (tyN (.bl p)) "bool" with | some b => Q (.bl b) | none => False)) := rfl
  have k : L2.kitB (tyN (.bl p)) "bool" = some true := by first | rfl | decide +kernel
  rw [e, k, tt (by rfl)]
theorem isi_bool_int {i : Int} {Q : D → Prop} : mIsi [(.int i), .ty "bool"] Q = Q (.bl false) := by
  have e : mIsi [(.int i), .ty "bool"] Q = (isTy (.int i) = false ∧ (match L2.kitB (tyN (.int i)) "bool" with | some b => Q (.bl b) | none => False)) := rfl
  have k : L2.kitB (tyN (.int i)) "bool" = some false := by first | rfl | decide +kernel
  rw [e, k, tt (by rfl)]
theorem isi_bool_str {s : Str} {Q : D → Prop} : mIsi [(.str s), .ty "bool"] Q = Q (.bl false) := by
  have e : mIsi [(.str s), .ty "bool"] Q = (isTy (.str s) = false ∧ (match L2.kitB (tyN (.str s)) "bool" with | some b => Q (.bl b) | none => False)) := rfl
  have k : L2.kitB (tyN (.str s)) "bool" = some false := by first | rfl | decide +kernel
  rw [e, k, tt (by rfl)]
theorem isi_bool_tup {xs : List D} {Q : D → Prop} : mIsi [(.tup xs), .ty "bool"] Q = Q (.bl false) := by
  have e : mIsi [(.tup xs), .ty "bool"] Q = (isTy (.tup xs) = false ∧ (match L2.kitB (tyN (.tup xs)) "bool" with | some b => Q (.bl b) | none => False)) := rfl
  have k : L2.kitB (tyN (.tup xs)) "bool" = some false := by first | rfl | decide +kernel
  rw [e, k, tt (by rfl)]
theorem isi_bool_lst {xs : List D} {Q : D → Prop} : mIsi [(.lst xs), .ty "bool"] Q = Q (.bl false) := by
  have e : mIsi [(.lst xs), .ty "bool"] Q = (isTy (.lst xs) = false ∧ (match L2.kitB (tyN (.lst xs)) "bool" with | some b => Q (.bl b) | none => False)) := rfl
  have k : L2.kitB (tyN (.lst xs)) "bool" = some false := by first | rfl | decide +kernel
  rw [e, k, tt (by rfl)]
theorem isi_tuple_non {Q : D → Prop} : mIsi [.non, .ty "tuple"] Q = Q (.bl false) := by
  have e : mIsi [.non, .ty "tuple"] Q = (isTy .non = false ∧ (match L2.kitB (tyN .non) "tuple" with | some b => Q (.bl b) | none => False)) := rfl
  have k : L2.kitB (tyN .non) "tuple" = some false := by first | rfl | decide +kernel
  rw [e, k, tt (by rfl)]
theorem isi_tuple_bl {p : Bool} {Q : D → Prop} : mIsi [(.bl p), .ty "tuple"] Q = Q (.bl false) := by
  have e : mIsi [(.bl p), .ty "tuple"] Q = (isTy (.bl p) = false ∧ (match L2.kitB (tyN (.bl p)) "tuple" with | some b => Q (.bl b) | none => False)) := rfl
  have k : L2.kitB (tyN (.bl p)) "tuple" = some false := by first | rfl | decide +kernel
  rw [e, k, tt (by rfl)]
theorem isi_tuple_int {i : Int} {Q : D → Prop} : mIsi [(.int i), .ty "tuple"] Q = Q (.bl false) := by
  have e : mIsi [(.int i), .ty "tuple"] Q = (isTy (.int i) = false ∧ (match L2.kitB (tyN (.int i)) "tuple" with | some b => Q (.bl b) | none => False)) := rfl
  have k : L2.kitB (tyN (.int i)) "tuple" = some false := by first | rfl | decide +kernel
  rw [e, k, tt (by rfl)]
theorem isi_tuple_str {s : Str} {Q : D → Prop} : mIsi [(.str s), .ty "tuple"] Q = Q (.bl false) := by
  have e : mIsi [(.str s), .ty "tuple"] Q = (isTy (.str s) = false ∧ (match L2.kitB (tyN (.str s)) "tuple" with | some b => Q (.bl b) | none => False)) := rfl
  have k : L2.kitB (tyN (.str s)) "tuple" = some false := by first | rfl | decide +kernel
  rw [e, k, tt (by rfl)]
theorem isi_tuple_tup {xs : List D} {Q : D → Prop} : mIsi [(.tup xs), .ty "tuple"] Q = Q (.bl true) := by
  have e : mIsi [(.tup xs), .ty "tuple"] Q = (isTy (.tup xs) = false ∧ (match L2.kitB (tyN (.tup xs)) "tuple" with | some b => Q (.bl b) | none => False)) := rfl
  have k : L2.kitB (tyN (.tup xs)) "tuple" = some true := by first | rfl | decide +kernel
  rw [e, k, tt (by rfl)]
theorem isi_tuple_lst {xs : List D} {Q : D → Prop} : mIsi [(.lst xs), .ty "tuple"] Q = Q (.bl false) := by
  have e : mIsi [(.lst xs), .ty "tuple"] Q = (isTy (.lst xs) = false ∧ (match L2.kitB (tyN (.lst xs)) "tuple" with | some b => Q (.bl b) | none => False)) := rfl
  have k : L2.kitB (tyN (.lst xs)) "tuple" = some false := by first | rfl | decide +kernel
  rw [e, k, tt (by rfl)]
theorem isi_list_non {Q : D → Prop} : mIsi [.non, .ty "list"] Q = Q (.bl false) := by
  have e : mIsi [.non, .ty "list"] Q = (isTy .non = false ∧ (match L2.kitB (tyN .non) "list" with | some b => Q (.bl b) | none => False)) := rfl
  have k : L2.kitB (tyN .non) "list" = some false := by first | rfl | decide +kernel
  rw [e, k, tt (by rfl)]
theorem isi_list_bl {p : Bool} {Q : D → Prop} : mIsi [(.bl p), .ty "list"] Q = Q (.bl false) := by
  have e : mIsi [(.bl p), .ty "list"] Q = (isTy (.bl p) = false ∧ (match L2.kitB (tyN (.bl p)) "list" with | some b => Q (.bl b) | none => False)) := rfl
  have k : L2.kitB (tyN (.bl p)) "list" = some false := by first | rfl | decide +kernel
  rw [e, k, tt (by rfl)]
theorem isi_list_int {i : Int} {Q : D → Prop} : mIsi [(.int i), .ty "list"] Q = Q (.bl false) := by
  have e : mIsi [(.int i), .ty "list"] Q = (isTy (.int i) = false ∧ (match L2.kitB (tyN (.int i)) "list" with | some b => Q (.bl b) | none => False)) := rfl
  have k : L2.kitB (tyN (.int i)) "list" = some false := by first | rfl | decide +kernel
  rw [e, k, tt (by rfl)]
theorem isi_list_str {s : Str} {Q : D → Prop} : mIsi [(.str s), .ty "list"] Q = Q (.bl false) := by
  have e : mIsi [(.str s), .ty "list"] Q = (isTy (.str s) = false ∧ (match L2.kitB (tyN (.str s)) "list" with | some b => Q (.bl b) | none => False)) := rfl
  have k : L2.kitB (tyN (.str s)) "list" = some false := by first | rfl | decide +kernel
  rw [e, k, tt (by rfl)]
theorem isi_list_tup {xs : List D} {Q : D → Prop} : mIsi [(.tup xs), .ty "list"] Q = Q (.bl false) := by
  have e : mIsi [(.tup xs), .ty "list"] Q = (isTy (.tup xs) = false ∧ (match L2.kitB (tyN (.tup xs)) "list" with | some b => Q (.bl b) | none => False)) := rfl
  have k : L2.kitB (tyN (.tup xs)) "list" = some false := by first | rfl | decide +kernel
  rw [e, k, tt (by rfl)]
theorem isi_list_lst {xs : List D} {Q : D → Prop} : mIsi [(.lst xs), .ty "list"] Q = Q (.bl true) := by
  have e : mIsi [(.lst xs), .ty "list"] Q = (isTy (.lst xs) = false ∧ (match L2.kitB (tyN (.lst xs)) "list" with | some b => Q (.bl b) | none => False)) := rfl
  have k : L2.kitB (tyN (.lst xs)) "list" = some true := by first | rfl | decide +kernel
  rw [e, k, tt (by rfl)]
theorem isi_str_non {Q : D → Prop} : mIsi [.non, .ty "str"] Q = Q (.bl false) := by
  have e : mIsi [.non, .ty "str"] Q = (isTy .non = false ∧ (match L2.kitB (tyN .non) "str" with | some b => Q (.bl b) | none => False)) := rfl
  have k : L2.kitB (tyN .non) "str" = some false := by first | rfl | decide +kernel
  rw [e, k, tt (by rfl)]
theorem isi_str_bl {p : Bool} {Q : D → Prop} : mIsi [(.bl p), .ty "str"] Q = Q (.bl false) := by
  have e : mIsi [(.bl p), .ty "str"] Q = (isTy (.bl p) = false ∧ (match L2.kitB (tyN (.bl p)) "str" with | some b => Q (.bl b) | none => False)) := rfl
  have k : L2.kitB (tyN (.bl p)) "str" = some false := by first | rfl | decide +kernel
  rw [e, k, tt (by rfl)]
theorem isi_str_int {i : Int} {Q : D → Prop} : mIsi [(.int i), .ty "str"] Q = Q (.bl false) := by
  have e : mIsi [(.int i), .ty "str"] Q = (isTy (.int i) = false ∧ (match L2.kitB (tyN (.int i)) "str" with | some b => Q (.bl b) | none => False)) := rfl
  have k : L2.kitB (tyN (.int i)) "str" = some false := by first | rfl | decide +kernel
  rw [e, k, tt (by rfl)]
theorem isi_str_str {s : Str} {Q : D → Prop} : mIsi [(.str s), .ty "str"] Q = Q (.bl true) := by
  have e : mIsi [(.str s), .ty "str"] Q = (isTy (.str s) = false ∧ (match L2.kitB (tyN (.str s)) "str" with | some b => Q (.bl b) | none => False)) := rfl
  have k : L2.kitB (tyN (.str s)) "str" = some true := by first | rfl | decide +kernel
  rw [e, k, tt (by rfl)]
theorem isi_str_tup {xs : List D} {Q : D → Prop} : mIsi [(.tup xs), .ty "str"] Q = Q (.bl false) := by
  have e : mIsi [(.tup xs), .ty "str"] Q = (isTy (.tup xs) = false ∧ (match L2.kitB (tyN (.tup xs)) "str" with | some b => Q (.bl b) | none => False)) := rfl
  have k : L2.kitB (tyN (.tup xs)) "str" = some false := by first | rfl | decide +kernel
  rw [e, k, tt (by rfl)]
theorem isi_str_lst {xs : List D} {Q : D → Prop} : mIsi [(.lst xs), .ty "str"] Q = Q (.bl false) := by
  have e : mIsi [(.lst xs), .ty "str"] Q = (isTy (.lst xs) = false ∧ (match L2.kitB (tyN (.lst xs)) "str" with | some b => Q (.bl b) | none => False)) := rfl
  have k : L2.kitB (tyN (.lst xs)) "str" = some false := by first | rfl | decide +kernel
  rw [e, k, tt (by rfl)]
theorem isi_q {n : String} {x : Rat} {Q : D → Prop} : mIsi [qD x, .ty n] Q = mIsi [.tup [.int x.num, .int (x.den : Int)], .ty n] Q := rfl
theorem sqB_q {x : Rat} {QL : List D → Prop} : sqB (qD x) QL = QL [.int x.num, .int (x.den : Int)] := sqB_tup
theorem len_q {x : Rat} {Q : D → Prop} : mLen [qD x] Q = Q (.int 2) := x_lenT
theorem isi_int_dct {ks xs : List D} {Q : D → Prop} : mIsi [(.dct ks xs), .ty "int"] Q = Q (.bl false) := by
  have e : mIsi [(.dct ks xs), .ty "int"] Q = (isTy (.dct ks xs) = false ∧ (match L2.kitB (tyN (.dct ks xs)) "int" with | some b => Q (.bl b) | none => False)) := rfl
  have k : L2.kitB (tyN (.dct ks xs)) "int" = some false := by first | rfl | decide +kernel
  rw [e, k, tt (by rfl)]
theorem isi_bool_dct {ks xs : List D} {Q : D → Prop} : mIsi [(.dct ks xs), .ty "bool"] Q = Q (.bl false) := by
  have e : mIsi [(.dct ks xs), .ty "bool"] Q = (isTy (.dct ks xs) = false ∧ (match L2.kitB (tyN (.dct ks xs)) "bool" with | some b => Q (.bl b) | none => False)) := rfl
  have k : L2.kitB (tyN (.dct ks xs)) "bool" = some false := by first | rfl | decide +kernel
  rw [e, k, tt (by rfl)]
theorem isi_tuple_dct {ks xs : List D} {Q : D → Prop} : mIsi [(.dct ks xs), .ty "tuple"] Q = Q (.bl false) := by
  have e : mIsi [(.dct ks xs), .ty "tuple"] Q = (isTy (.dct ks xs) = false ∧ (match L2.kitB (tyN (.dct ks xs)) "tuple" with | some b => Q (.bl b) | none => False)) := rfl
  have k : L2.kitB (tyN (.dct ks xs)) "tuple" = some false := by first | rfl | decide +kernel
  rw [e, k, tt (by rfl)]
theorem isi_list_dct {ks xs : List D} {Q : D → Prop} : mIsi [(.dct ks xs), .ty "list"] Q = Q (.bl false) := by
  have e : mIsi [(.dct ks xs), .ty "list"] Q = (isTy (.dct ks xs) = false ∧ (match L2.kitB (tyN (.dct ks xs)) "list" with | some b => Q (.bl b) | none => False)) := rfl
  have k : L2.kitB (tyN (.dct ks xs)) "list" = some false := by first | rfl | decide +kernel
  rw [e, k, tt (by rfl)]
theorem isi_str_dct {ks xs : List D} {Q : D → Prop} : mIsi [(.dct ks xs), .ty "str"] Q = Q (.bl false) := by
  have e : mIsi [(.dct ks xs), .ty "str"] Q = (isTy (.dct ks xs) = false ∧ (match L2.kitB (tyN (.dct ks xs)) "str" with | some b => Q (.bl b) | none => False)) := rfl
  have k : L2.kitB (tyN (.dct ks xs)) "str" = some false := by first | rfl | decide +kernel
  rw [e, k, tt (by rfl)]
theorem isi_dict_dct {ks xs : List D} {Q : D → Prop} : mIsi [(.dct ks xs), .ty "dict"] Q = Q (.bl true) := by
  have e : mIsi [(.dct ks xs), .ty "dict"] Q = (isTy (.dct ks xs) = false ∧ (match L2.kitB (tyN (.dct ks xs)) "dict" with | some b => Q (.bl b) | none => False)) := rfl
  have k : L2.kitB (tyN (.dct ks xs)) "dict" = some true := by first | rfl | decide +kernel
  rw [e, k, tt (by rfl)]
theorem isNon_dct {ks xs : List D} : isNon (.dct ks xs) = false := by unfold isNon; simp
end DL

set_option Elab.async false
set_option linter.all false
set_option maxRecDepth 100000
namespace DL
open PySem
open L2 (CMulW CDivW CPow atI)
/-! ### walks over lists of things that are shown as data -/
section
variable {α β : Type} {en : En} {mg : D → En → (En → Prop) → Prop} {mt : M Bool} {me : M D} {mb : MS} {F : DL.Fin}
theorem lc_mapA (enc : α → D) (w : α → D) : ∀ (l : List α) (acc : List D) {Q : List D → Prop},
    (∀ a ∈ l, ∀ (Qy : D → Prop) (Qn : Prop), Qy (w a) → mg (enc a) en fun en2 => mt en2 fun b => if b = true then me en2 Qy else Qn) →
    Q (acc ++ l.map w) → lcL en mg mt me (l.map enc) acc Q
  | [], acc, Q, _, h => by
    rw [List.map_nil, List.append_nil] at h
    exact h
  | a :: l, acc, Q, hs, h => by
    rw [List.map_cons, ← List.singleton_append, ← List.append_assoc] at h
    exact hs a List.mem_cons_self _ _ (lc_mapA enc w l _ (fun b hb => hs b (List.mem_cons_of_mem _ hb)) h)
/-- every turn gives one -/
theorem lc_mapE (enc : α → D) (w : α → D) {l : List α} {Q : List D → Prop}
    (hs : ∀ a ∈ l, ∀ (Qy : D → Prop) (Qn : Prop), Qy (w a) → mg (enc a) en fun en2 => mt en2 fun b => if b = true then me en2 Qy else Qn)
    (h : Q (l.map w)) : lcL en mg mt me (l.map enc) [] Q := lc_mapA enc w l [] hs h
theorem lc_filA (enc : α → D) (c : α → Bool) (w : α → D) : ∀ (l : List α) (acc : List D) {Q : List D → Prop},
    (∀ a ∈ l, ∀ (Qy : D → Prop) (Qn : Prop), (c a = true → Qy (w a)) → (c a = false → Qn) → mg (enc a) en fun en2 => mt en2 fun b => if b = true then me en2 Qy else Qn) →
    Q (acc ++ (l.filter c).map w) → lcL en mg mt me (l.map enc) acc Q
  | [], acc, Q, _, h => by
    rw [List.filter_nil, List.map_nil, List.append_nil] at h
    exact h
  | a :: l, acc, Q, hs, h => by
    refine hs a List.mem_cons_self _ _ (fun e => ?_) fun e => ?_
    · rw [List.filter_cons_of_pos e, List.map_cons, ← List.singleton_append, ← List.append_assoc] at h
      exact lc_filA enc c w l _ (fun b hb => hs b (List.mem_cons_of_mem _ hb)) h
    · rw [List.filter_cons_of_neg (by rw [e]; decide)] at h
      exact lc_filA enc c w l _ (fun b hb => hs b (List.mem_cons_of_mem _ hb)) h
/-- a turn gives one where c holds -/
theorem lc_filE (enc : α → D) (c : α → Bool) (w : α → D) {l : List α} {Q : List D → Prop}
    (hs : ∀ a ∈ l, ∀ (Qy : D → Prop) (Qn : Prop), (c a = true → Qy (w a)) → (c a = false → Qn) → mg (enc a) en fun en2 => mt en2 fun b => if b = true then me en2 Qy else Qn)
    (h : Q ((l.filter c).map w)) : lcL en mg mt me (l.map enc) [] Q := lc_filA enc c w l [] hs h
theorem for_foldA (enc : α → D) (st : β → En → Prop) (f : β → α → β) : ∀ (l : List α) (b0 : β) {en : En}, st b0 en →
    (∀ b a en, a ∈ l → st b en → ∀ N : En → Prop, (∀ en', st (f b a) en' → N en') → mg (enc a) en fun en2 => mb { F with nx := N, ct := N, bk := F.nx } en2) →
    (∀ en, st (l.foldl f b0) en → F.nx en) → forL mg mb F (l.map enc) en
  | [], b0, en, h, _, hd => hd en h
  | a :: l, b0, en, h, hs, hd => hs b0 a en List.mem_cons_self h _ fun en' h' =>
    for_foldA enc st f l (f b0 a) h' (fun b c e hc => hs b c e (List.mem_cons_of_mem _ hc)) hd
/-- a loop that carries a value on -/
theorem for_fold (enc : α → D) (st : β → En → Prop) (f : β → α → β) {l : List α} (b0 : β) {en : En} (h : st b0 en)
    (hs : ∀ b a en, a ∈ l → st b en → ∀ N : En → Prop, (∀ en', st (f b a) en' → N en') → mg (enc a) en fun en2 => mb { F with nx := N, ct := N, bk := F.nx } en2)
    (hd : ∀ en, st (l.foldl f b0) en → F.nx en) : forL mg mb F (l.map enc) en := for_foldA enc st f l b0 h hs hd
theorem for_preA (enc : α → D) (Iv : List α → En → Prop) (l0 : List α) : ∀ (l p : List α) {en : En}, l0 = p ++ l → Iv p en →
    (∀ p a r en, l0 = p ++ a :: r → Iv p en → ∀ N : En → Prop, (∀ en', Iv (p ++ [a]) en' → N en') → mg (enc a) en fun en2 => mb { F with nx := N, ct := N, bk := F.nx } en2) →
    (∀ en, Iv l0 en → F.nx en) → forL mg mb F (l.map enc) en
  | [], p, en, e, h, _, hd => hd en (by rw [e, List.append_nil]; exact h)
  | a :: l, p, en, e, h, hs, hd => hs p a l en e h _ fun en' h' =>
    for_preA enc Iv l0 l (p ++ [a]) (by rw [e, List.append_assoc]; rfl) h' hs hd
/-- what holds behind the first ones of the things -/
theorem for_pre (enc : α → D) (Iv : List α → En → Prop) {l : List α} {en : En} (h : Iv [] en)
    (hs : ∀ p a r en, l = p ++ a :: r → Iv p en → ∀ N : En → Prop, (∀ en', Iv (p ++ [a]) en' → N en') → mg (enc a) en fun en2 => mb { F with nx := N, ct := N, bk := F.nx } en2)
    (hd : ∀ en, Iv l en → F.nx en) : forL mg mb F (l.map enc) en := for_preA enc Iv l l [] rfl h hs hd
/-- what holds while so many of the things are left -/
theorem for_rem (enc : α → D) (Iv : List α → En → Prop) : ∀ {l : List α} {en : En}, Iv l en →
    (∀ a r en, Iv (a :: r) en → ∀ N : En → Prop, (∀ en', Iv r en' → N en') → mg (enc a) en fun en2 => mb { F with nx := N, ct := N, bk := F.nx } en2) →
    (∀ en, Iv [] en → F.nx en) → forL mg mb F (l.map enc) en
  | [], en, h, _, hd => hd en h
  | a :: l, en, h, hs, hd => hs a l en h _ fun en' h' => for_rem enc Iv h' hs hd
end
theorem rng_map (lo : Int) (n : Nat) : rng lo n = (List.range n).map fun i : Nat => D.int (lo + (i : Int)) := rfl
theorem rng_nat (n : Nat) : rng 0 n = (List.range n).map fun i : Nat => D.int (i : Int) := by
  rw [rng_map]
  exact List.map_congr_left fun i _ => by rw [Int.zero_add]
/-- the numbers from a on, so many -/
theorem rng_from (a n : Nat) : rng (a : Int) n = (List.range' a n).map fun i : Nat => D.int (i : Int) := by
  rw [rng_map, List.range'_eq_map_range, List.map_map]
  exact List.map_congr_left fun i _ => by show D.int ((a : Int) + (i : Int)) = D.int (((a + i : Nat) : Nat) : Int); rw [Int.natCast_add]
theorem zip_map {α β : Type} (f : α → D) (g : β → D) (l : List α) (m : List β) : zipD (l.map f) (m.map g) = (l.zip m).map fun p => .tup [f p.1, g p.2] := by
  unfold zipD
  rw [List.zipWith_map, List.zip, List.map_zipWith]
theorem enum_map {α : Type} (f : α → D) : ∀ (l : List α) (k : Nat), enumD k (l.map f) = (l.zipIdx k).map fun p => .tup [.int (p.2 : Int), f p.1]
  | [], _ => rfl
  | a :: l, k => by
    rw [List.map_cons, List.zipIdx_cons, List.map_cons, ← enum_map f l (k + 1)]
    rfl
/-- greatest, least of fractions -/
def maxQ : List Rat → Rat
  | [] => 0
  | x :: xs => xs.foldl (fun a y => if a < y then y else a) x
def minQ : List Rat → Rat
  | [] => 0
  | x :: xs => xs.foldl (fun a y => if y < a then y else a) x
theorem maxQ_fold : ∀ (xs : List Rat) (x : Rat), let m := xs.foldl (fun a y => if a < y then y else a) x; (m = x ∨ m ∈ xs) ∧ x ≤ m ∧ ∀ y ∈ xs, y ≤ m
  | [], x => ⟨.inl rfl, Rat.le_refl, fun y hy => (List.not_mem_nil hy).elim⟩
  | z :: zs, x => by
    have ih := maxQ_fold zs (if x < z then z else x)
    rw [List.foldl_cons]
    obtain ⟨h1, h2, h3⟩ := ih
    have hx : x ≤ if x < z then z else x := by split <;> grind
    have hz : z ≤ if x < z then z else x := by split <;> grind
    refine ⟨?_, Rat.le_trans hx h2, fun y hy => ?_⟩
    · rcases h1 with h1 | h1
      · rw [h1]
        split
        · exact .inr List.mem_cons_self
        · exact .inl rfl
      · exact .inr (List.mem_cons_of_mem _ h1)
    · rcases List.mem_cons.mp hy with e | hy
      · rw [e]
        exact Rat.le_trans hz h2
      · exact h3 y hy
theorem minQ_fold : ∀ (xs : List Rat) (x : Rat), let m := xs.foldl (fun a y => if y < a then y else a) x; (m = x ∨ m ∈ xs) ∧ m ≤ x ∧ ∀ y ∈ xs, m ≤ y
  | [], x => ⟨.inl rfl, Rat.le_refl, fun y hy => (List.not_mem_nil hy).elim⟩
  | z :: zs, x => by
    have ih := minQ_fold zs (if z < x then z else x)
    rw [List.foldl_cons]
    obtain ⟨h1, h2, h3⟩ := ih
    have hx : (if z < x then z else x) ≤ x := by split <;> grind
    have hz : (if z < x then z else x) ≤ z := by split <;> grind
    refine ⟨?_, Rat.le_trans h2 hx, fun y hy => ?_⟩
    · rcases h1 with h1 | h1
      · rw [h1]
        split
        · exact .inr List.mem_cons_self
        · exact .inl rfl
      · exact .inr (List.mem_cons_of_mem _ h1)
    · rcases List.mem_cons.mp hy with e | hy
      · rw [e]
        exact Rat.le_trans h2 hz
      · exact h3 y hy
theorem maxQ_mem {l : List Rat} (h : l ≠ []) : maxQ l ∈ l := by
  cases l with
  | nil => exact absurd rfl h
  | cons x xs =>
    rcases (maxQ_fold xs x).1 with e | e
    · exact List.mem_cons.mpr (.inl e)
    · exact List.mem_cons_of_mem _ e
theorem maxQ_le {l : List Rat} {y : Rat} (h : y ∈ l) : y ≤ maxQ l := by
  cases l with
  | nil => cases h
  | cons x xs =>
    rcases List.mem_cons.mp h with e | h
    · rw [e]
      exact (maxQ_fold xs x).2.1
    · exact (maxQ_fold xs x).2.2 y h
theorem minQ_mem {l : List Rat} (h : l ≠ []) : minQ l ∈ l := by
  cases l with
  | nil => exact absurd rfl h
  | cons x xs =>
    rcases (minQ_fold xs x).1 with e | e
    · exact List.mem_cons.mpr (.inl e)
    · exact List.mem_cons_of_mem _ e
theorem minQ_le {l : List Rat} {y : Rat} (h : y ∈ l) : minQ l ≤ y := by
  cases l with
  | nil => cases h
  | cons x xs =>
    rcases List.mem_cons.mp h with e | h
    · rw [e]
      exact (minQ_fold xs x).2.1
    · exact (minQ_fold xs x).2.2 y h
theorem maxQ_eq {l : List Rat} {m : Rat} (h : m ∈ l) (hm : ∀ y ∈ l, y ≤ m) : maxQ l = m := Rat.le_antisymm (hm _ (maxQ_mem (List.ne_nil_of_mem h))) (maxQ_le h)
theorem minQ_eq {l : List Rat} {m : Rat} (h : m ∈ l) (hm : ∀ y ∈ l, m ≤ y) : minQ l = m := Rat.le_antisymm (minQ_le h) (hm _ (minQ_mem (List.ne_nil_of_mem h)))
/-- p / q and a / b by their products -/
theorem dI_le {a b p q : Int} (hb : 0 < b) (hq : 0 < q) : (Rat.divInt a b ≤ Rat.divInt p q) = (a * q ≤ p * b) := by
  rw [Rat.divInt_eq_div, Rat.divInt_eq_div]
  have hb' : (0 : Rat) < (b : Rat) := Rat.intCast_pos.mpr hb
  have hq' : (0 : Rat) < (q : Rat) := Rat.intCast_pos.mpr hq
  apply propext
  rw [← Rat.not_lt, ← Int.not_lt]
  refine not_congr ?_
  rw [Rat.div_lt_iff hq', ← Rat.intCast_lt_intCast, Rat.intCast_mul, Rat.intCast_mul]
  have e : (a : Rat) / b * q = (a * q) / b := by grind
  rw [e, Rat.lt_div_iff hb']
theorem dI_lt {a b p q : Int} (hb : 0 < b) (hq : 0 < q) : (Rat.divInt a b < Rat.divInt p q) = (a * q < p * b) := by
  apply propext
  rw [← Rat.not_le, ← Int.not_le, dI_le hq hb]
theorem dI_eq {a b p q : Int} (hb : 0 < b) (hq : 0 < q) : (Rat.divInt a b = Rat.divInt p q) = (a * q = p * b) := propext (Rat.divInt_eq_divInt_iff (by omega) (by omega))
theorem dI_one {q : Int} (hq : 0 < q) : Rat.divInt q q = 1 := Rat.divInt_self' (by omega)
theorem q_one : qD 1 = .tup [.int 1, .int 1] := rfl
theorem q_zero : qD 0 = .tup [.int 0, .int 1] := rfl
/-- greatest, least of numbers -/
def maxN : List Nat → Nat
  | [] => 0
  | x :: xs => xs.foldl max x
def minN : List Nat → Nat
  | [] => 0
  | x :: xs => xs.foldl min x
theorem maxN_fold : ∀ (xs : List Nat) (x : Nat), (xs.foldl max x = x ∨ xs.foldl max x ∈ xs) ∧ x ≤ xs.foldl max x ∧ ∀ y ∈ xs, y ≤ xs.foldl max x
  | [], x => ⟨.inl rfl, Nat.le_refl _, fun y hy => (List.not_mem_nil hy).elim⟩
  | z :: zs, x => by
    obtain ⟨h1, h2, h3⟩ := maxN_fold zs (max x z)
    rw [List.foldl_cons]
    refine ⟨?_, by omega, fun y hy => ?_⟩
    · rcases h1 with h1 | h1
      · rw [h1]
        by_cases h : x ≤ z
        · exact .inr (by rw [Nat.max_eq_right h]; exact List.mem_cons_self)
        · exact .inl (Nat.max_eq_left (by omega))
      · exact .inr (List.mem_cons_of_mem _ h1)
    · rcases List.mem_cons.mp hy with e | hy
      · omega
      · exact h3 y hy
theorem minN_fold : ∀ (xs : List Nat) (x : Nat), (xs.foldl min x = x ∨ xs.foldl min x ∈ xs) ∧ xs.foldl min x ≤ x ∧ ∀ y ∈ xs, xs.foldl min x ≤ y
  | [], x => ⟨.inl rfl, Nat.le_refl _, fun y hy => (List.not_mem_nil hy).elim⟩
  | z :: zs, x => by
    obtain ⟨h1, h2, h3⟩ := minN_fold zs (min x z)
    rw [List.foldl_cons]
    refine ⟨?_, by omega, fun y hy => ?_⟩
    · rcases h1 with h1 | h1
      · rw [h1]
        by_cases h : z ≤ x
        · exact .inr (by rw [Nat.min_eq_right h]; exact List.mem_cons_self)
        · exact .inl (Nat.min_eq_left (by omega))
      · exact .inr (List.mem_cons_of_mem _ h1)
    · rcases List.mem_cons.mp hy with e | hy
      · omega
      · exact h3 y hy
theorem maxN_mem {l : List Nat} (h : l ≠ []) : maxN l ∈ l := by
  cases l with
  | nil => exact absurd rfl h
  | cons x xs => exact List.mem_cons.mpr (maxN_fold xs x).1
theorem maxN_le {l : List Nat} {y : Nat} (h : y ∈ l) : y ≤ maxN l := by
  cases l with
  | nil => cases h
  | cons x xs =>
    rcases List.mem_cons.mp h with e | h
    · rw [e]
      exact (maxN_fold xs x).2.1
    · exact (maxN_fold xs x).2.2 y h
theorem minN_mem {l : List Nat} (h : l ≠ []) : minN l ∈ l := by
  cases l with
  | nil => exact absurd rfl h
  | cons x xs => exact List.mem_cons.mpr (minN_fold xs x).1
theorem minN_le {l : List Nat} {y : Nat} (h : y ∈ l) : minN l ≤ y := by
  cases l with
  | nil => cases h
  | cons x xs =>
    rcases List.mem_cons.mp h with e | h
    · rw [e]
      exact (minN_fold xs x).2.1
    · exact (minN_fold xs x).2.2 y h
theorem maxN_eq {l : List Nat} {m : Nat} (h : m ∈ l) (hm : ∀ y ∈ l, y ≤ m) : maxN l = m := Nat.le_antisymm (hm _ (maxN_mem (List.ne_nil_of_mem h))) (maxN_le h)
theorem minN_eq {l : List Nat} {m : Nat} (h : m ∈ l) (hm : ∀ y ∈ l, m ≤ y) : minN l = m := Nat.le_antisymm (minN_le h) (hm _ (minN_mem (List.ne_nil_of_mem h)))
def iD (n : Nat) : D := .int (n : Int)
theorem iD_map (l : List Nat) : l.map iD = (l.map fun n : Nat => (n : Int)).map .int := by rw [List.map_map]; rfl
section
variable {Q : D → Prop}
/-- max, min of ints -/
theorem maxI {ns : List Int} (h : 0 < ns.length) (q : ∀ m, m ∈ ns → (∀ y, y ∈ ns → y ≤ m) → Q (.int m)) : mMaxB [.lst (ns.map .int)] Q := by
  refine .inl ?_
  show (match ints? (ns.map .int) with | some ns => 0 < ns.length ∧ _ | none => False)
  rw [ints?_map]
  exact ⟨h, q⟩
theorem minI {ns : List Int} (h : 0 < ns.length) (q : ∀ m, m ∈ ns → (∀ y, y ∈ ns → m ≤ y) → Q (.int m)) : mMinB [.lst (ns.map .int)] Q := by
  refine .inl ?_
  show (match ints? (ns.map .int) with | some ns => 0 < ns.length ∧ _ | none => False)
  rw [ints?_map]
  exact ⟨h, q⟩
theorem maxNI {ns : List Nat} (h : ns ≠ []) (q : Q (iD (maxN ns))) : mMaxB [.lst (ns.map iD)] Q := by
  rw [iD_map]
  refine maxI (by rw [List.length_map]; exact List.length_pos_iff.mpr h) fun m hm hy => ?_
  obtain ⟨k, hk, rfl⟩ := List.mem_map.mp hm
  have e : maxN ns = k := maxN_eq hk fun y hy' => by have := hy _ (List.mem_map.mpr ⟨y, hy', rfl⟩); omega
  rw [e] at q
  exact q
theorem minNI {ns : List Nat} (h : ns ≠ []) (q : Q (iD (minN ns))) : mMinB [.lst (ns.map iD)] Q := by
  rw [iD_map]
  refine minI (by rw [List.length_map]; exact List.length_pos_iff.mpr h) fun m hm hy => ?_
  obtain ⟨k, hk, rfl⟩ := List.mem_map.mp hm
  have e : minN ns = k := minN_eq hk fun y hy' => by have := hy _ (List.mem_map.mpr ⟨y, hy', rfl⟩); omega
  rw [e] at q
  exact q
theorem sumN {ns : List Nat} (q : Q (iD ns.sum)) : mSum [.lst (ns.map iD)] Q := by
  rw [iD_map, x_sum]
  have e : ((ns.map fun n : Nat => (n : Int)).sum : Int) = ((ns.sum : Nat) : Int) := by
    clear q
    induction ns with
    | nil => rfl
    | cons n ns ih => rw [List.map_cons, List.sum_cons, List.sum_cons, ih, Int.natCast_add]
  rw [e]
  exact q
end
/-- part k of what is shown of a list -/
theorem getA {α : Type} (f : α → D) {l : List α} {k : Nat} (h : k < l.length) : (l.map f)[k]? = some (f l[k]) := by
  rw [List.getElem?_map, List.getElem?_eq_getElem h]
  rfl
section
variable {α : Type} {f : α → D} {l : List α} {k : Nat} {Q : D → Prop}
theorem ixTA {i : Int} (k : Nat) (hi : i = (k : Int)) (h : k < l.length) (q : Q (f l[k])) : mIx (.tup (l.map f)) (.int i) Q := ixA k hi (getA f h) q
theorem ixLA {i : Int} (k : Nat) (hi : i = (k : Int)) (h : k < l.length) (q : Q (f l[k])) : mIx (.lst (l.map f)) (.int i) Q := ixB k hi (getA f h) q
theorem ixAny {xs : List D} {k : Nat} (hk : k < xs.length) (h : ∀ d ∈ xs, Q d) : mIx (.lst xs) (.int (k : Int)) Q := ixB k rfl (List.getElem?_eq_getElem hk) (h _ (List.getElem_mem hk))
end
theorem gcd_abs (p q : Int) : ((Nat.gcd p.natAbs q.natAbs : Nat) : Int) = gcdI (p.natAbs : Int) q := by
  unfold gcdI
  show _ = ((Nat.gcd (p.natAbs : Int).natAbs q.natAbs : Nat) : Int)
  rw [Int.natAbs_natCast]
theorem x_gcd {a b : Int} {Q : D → Prop} : mGcd [.int a, .int b] Q = Q (.int ((Nat.gcd a.natAbs b.natAbs : Nat) : Int)) := propext Iff.rfl
/-- sums -/
def sumQ (l : List Rat) : Rat := l.foldl (· + ·) 0
theorem sumQ_nil : sumQ [] = 0 := rfl
theorem sumQ_snoc (p : List Rat) (a : Rat) : sumQ (p ++ [a]) = sumQ p + a := by
  unfold sumQ
  rw [List.foldl_append]
  rfl
theorem foldl_add (l : List Rat) (x : Rat) : l.foldl (· + ·) x = x + sumQ l := by
  unfold sumQ
  induction l generalizing x with
  | nil => exact (Rat.add_zero x).symm
  | cons a l ih =>
    rw [List.foldl_cons, List.foldl_cons, ih, ih (0 + a), Rat.zero_add, Rat.add_assoc]
theorem sumQ_cons (a : Rat) (l : List Rat) : sumQ (a :: l) = a + sumQ l := by
  show l.foldl (· + ·) (0 + a) = _
  rw [foldl_add, Rat.zero_add]
theorem sumQ_app (l m : List Rat) : sumQ (l ++ m) = sumQ l + sumQ m := by
  induction l with
  | nil => rw [List.nil_append, sumQ_nil, Rat.zero_add]
  | cons a l ih => rw [List.cons_append, sumQ_cons, sumQ_cons, ih, Rat.add_assoc]
theorem bq_zero {k : Nat} (h : 0 < k) : Bq k 0 := ⟨by unfold Bd; exact Nat.two_pow_pos k, by unfold Bd; exact Nat.one_lt_two_pow (by omega)⟩
theorem bq_one {k : Nat} (h : 0 < k) : Bq k 1 := ⟨by unfold Bd; exact Nat.one_lt_two_pow (by omega), by unfold Bd; exact Nat.one_lt_two_pow (by omega)⟩
theorem q_int (i : Int) : D.tup [.int i, .int 1] = qD (i : Rat) := rfl
theorem ix_last {xs : List D} {d : D} {Q : D → Prop} (h : xs[xs.length - 1]? = some d) : (mIx (.lst xs) (.int (-1)) Q = Q d) ∧ (mIx (.tup xs) (.int (-1)) Q = Q d) := by
  have e : L2.atI xs (-1) = some d := by
    have hl : 0 < xs.length := by
      have := (List.getElem?_eq_some_iff.mp h).1
      omega
    unfold L2.atI L2.ixN
    rw [if_neg (by decide), if_pos (by omega), Option.bind_some]
    have e1 : ((-1 : Int) + (xs.length : Int)).toNat = xs.length - 1 := by omega
    rw [e1]
    exact h
  constructor
  · show (match L2.atI xs (-1) with | some d => Q d | none => False) = _
    rw [e]
  · show (match L2.atI xs (-1) with | some d => Q d | none => False) = _
    rw [e]
/-- range(n - 1, -1, -1) -/
theorem rgc_dn {n : Nat} (hn : n ≤ 1000000000) : L2.RgC ((n : Int) - 1) (0 - 1) (0 - 1) n := by
  have h := L2.RgC.neg (i := (n : Int) - 1) (j := -1) (by omega) (by omega) (by decide) (by decide)
  have e : ((n : Int) - 1 - -1).toNat = n := by omega
  rw [e] at h
  exact h
section
variable {en : En} {ma mb mc : M D} {QL : List D → Prop}
def r3B (x y z : D) (QL : List D → Prop) : Prop := match x, y, z with | .int i, .int j, .int c => ∃ n, L2.RgC i j c n ∧ QL (rngC i c n) | _, _, _ => False
theorem r3B_ {i j c : Int} : r3B (.int i) (.int j) (.int c) QL = ∃ n, L2.RgC i j c n ∧ QL (rngC i c n) := propext Iff.rfl
theorem x_mR3 : mR3 (aC ma (aC mb (aC mc aN))) en QL = ma en fun x => mb en fun y => mc en fun z => r3B x y z QL := by
  unfold mR3 aC aN
  refine congrArg (ma en) (funext fun d => congrArg (mb en) (funext fun e => congrArg (mc en) (funext fun f => ?_)))
  cases d <;> cases e <;> cases f <;> rfl
end
/-! ### whole numbers -/
theorem okd_iD {n : Nat} (k : Nat) : okd n (iD k) = true := okd_int
theorem okd_nl {l : List Nat} : okd 60 (.lst (l.map iD)) = true := okd_le (okd_lst (n := 0) fun d hd => by
  obtain ⟨i, _, rfl⟩ := List.mem_map.mp hd
  rfl) (by decide)
theorem okd_nt {l : List Nat} {n : Nat} : okd (n + 1) (.tup (l.map iD)) = true := okd_tup fun d hd => by
  obtain ⟨i, _, rfl⟩ := List.mem_map.mp hd
  exact okd_int
theorem deq_iD {a b : Nat} : deq (iD a) (iD b) = (a == b) := by
  unfold iD
  rw [deq_ii, Bool.eq_iff_iff, decide_eq_true_eq, beq_iff_eq]
  omega
theorem any_deq (l : List Nat) (a : Nat) : ((l.map iD).any fun y => deq y (iD a)) = decide (a ∈ l) := by
  rw [Bool.eq_iff_iff, List.any_eq_true, decide_eq_true_eq]
  constructor
  · rintro ⟨y, hy, e⟩
    obtain ⟨i, hi, rfl⟩ := List.mem_map.mp hy
    rw [deq_iD, beq_iff_eq] at e
    rw [← e]
    exact hi
  · intro h
    exact ⟨iD a, List.mem_map.mpr ⟨a, h, rfl⟩, by rw [deq_iD, beq_iff_eq]⟩
theorem all_flat (l : List Nat) : (l.map iD).all flatD = true := List.all_eq_true.mpr fun d hd => by
  obtain ⟨i, _, rfl⟩ := List.mem_map.mp hd
  rfl
/-! ### min of (number, tuple of numbers) -/
def cDt (x : Int × List Nat) : D := .tup [.int x.1, .tup (x.2.map iD)]
def fstP : PyData → Int
  | .tuple (.int a :: _) => a
  | _ => 0
theorem toPyL_m (l : List D) : toPyL l = l.map toPy := by
  induction l with
  | nil => rfl
  | cons d l ih =>
    show toPy d :: toPyL l = _
    rw [ih]
    rfl
theorem alikeAll_iD : ∀ l m : List Nat, PySem.W.alikeAll ((l.map iD).map toPy) ((m.map iD).map toPy) = true
  | [], _ => by simp [PySem.W.alikeAll]
  | _ :: _, [] => by simp [PySem.W.alikeAll]
  | a :: l, b :: m => by
    rw [List.map_cons, List.map_cons, List.map_cons, List.map_cons, PySem.W.alikeAll, alikeAll_iD l m]
    rfl
theorem toPy_cDt (x : Int × List Nat) : toPy (cDt x) = .tuple [.int x.1, .tuple ((x.2.map iD).map toPy)] := by
  show PyData.tuple (toPyL [.int x.1, .tup (x.2.map iD)]) = _
  rw [toPyL_m]
  show PyData.tuple [.int x.1, .tuple (toPyL (x.2.map iD))] = _
  rw [toPyL_m]
theorem alike_cDt (x y : Int × List Nat) : PySem.W.alike (toPy (cDt x)) (toPy (cDt y)) = true := by
  rw [toPy_cDt, toPy_cDt, PySem.W.alike, PySem.W.alikeAll, PySem.W.alikeAll, PySem.W.alike, PySem.W.alikeAll]
  have e : PySem.W.alike (PyData.tuple (List.map toPy (List.map iD x.snd))) (PyData.tuple (List.map toPy (List.map iD y.snd))) = true := by
    rw [PySem.W.alike]
    exact alikeAll_iD _ _
  rw [e]
  rfl
theorem lt_cDt (x y : Int × List Nat) : (PySem.W.dataLt (toPy (cDt x)) (toPy (cDt y)) = true → x.1 ≤ y.1) ∧ (PySem.W.dataLt (toPy (cDt x)) (toPy (cDt y)) = false → y.1 ≤ x.1) := by
  rw [toPy_cDt, toPy_cDt, PySem.W.dataLt_pair (by rfl) (by rw [PySem.W.alike]; exact alikeAll_iD _ _), PySem.W.dataLt_int]
  have e : PyData.eqv (.int x.1) (.int y.1) = decide (x.1 = y.1) := by
    rw [PyData.eqv, Bool.eq_iff_iff, decide_eq_true_eq, beq_iff_eq]
  rw [e]
  by_cases h : x.1 = y.1
  · exact ⟨fun _ => by omega, fun _ => by omega⟩
  · rw [decide_eq_false h, if_neg (by decide)]
    exact ⟨fun k => by have := of_decide_eq_true k; omega, fun k => by have := of_decide_eq_false k; omega⟩
theorem minD_cDt : ∀ (xs : List (Int × List Nat)) (x : Int × List Nat), ∃ z ∈ x :: xs, PySem.W.minD (toPy (cDt x)) ((xs.map cDt).map toPy) = toPy (cDt z) ∧ ∀ y ∈ x :: xs, z.1 ≤ y.1
  | [], x => ⟨x, List.mem_cons_self, rfl, fun y hy => by rw [List.mem_singleton.mp hy]; exact Int.le_refl _⟩
  | w :: xs, x => by
    have e : PySem.W.minD (toPy (cDt x)) (((w :: xs).map cDt).map toPy) = PySem.W.minD (if PySem.W.dataLt (toPy (cDt w)) (toPy (cDt x)) = true then toPy (cDt w) else toPy (cDt x)) ((xs.map cDt).map toPy) := rfl
    rw [e]
    obtain ⟨h1, h2⟩ := lt_cDt w x
    cases hb : PySem.W.dataLt (toPy (cDt w)) (toPy (cDt x)) with
    | true =>
      rw [if_pos rfl]
      obtain ⟨z, hz, e, hm⟩ := minD_cDt xs w
      refine ⟨z, List.mem_cons_of_mem _ hz, e, fun y hy => ?_⟩
      rcases List.mem_cons.mp hy with rfl | hy
      · exact Int.le_trans (hm _ List.mem_cons_self) (h1 hb)
      · exact hm y hy
    | false =>
      rw [if_neg (by decide)]
      obtain ⟨z, hz, e, hm⟩ := minD_cDt xs x
      refine ⟨z, ?_, e, fun y hy => ?_⟩
      · rcases List.mem_cons.mp hz with rfl | hz
        · exact List.mem_cons_self
        · exact List.mem_cons_of_mem _ (List.mem_cons_of_mem _ hz)
      · rcases List.mem_cons.mp hy with rfl | hy
        · exact hm _ List.mem_cons_self
        · rcases List.mem_cons.mp hy with rfl | hy
          · exact Int.le_trans (hm _ List.mem_cons_self) (h2 hb)
          · exact hm y (List.mem_cons_of_mem _ hy)
theorem fst_cDt (x : Int × List Nat) : fstP (toPy (cDt x)) = x.1 := by rw [toPy_cDt]; rfl
theorem minC {ps : List (Int × List Nat)} {Q : D → Prop} (h0 : ps ≠ []) (h : ∀ x ∈ ps, (∀ y ∈ ps, x.1 ≤ y.1) → Q (cDt x)) : mMinB [.lst (ps.map cDt)] Q := by
  cases ps with
  | nil => exact absurd rfl h0
  | cons p ps =>
    refine .inr ⟨okL_of fun d hd => ?_, ?_, fun i d hd hi => ?_⟩
    · obtain ⟨x, _, rfl⟩ : ∃ x, x ∈ p :: ps ∧ cDt x = d := List.mem_map.mp hd
      refine okd_tup fun c hc => ?_
      simp only [List.mem_cons, List.not_mem_nil, or_false] at hc
      rcases hc with rfl | rfl
      · exact okd_int
      · exact okd_nt
    · have e : toPyL (cDt p :: ps.map cDt) = ((p :: ps).map cDt).map toPy := toPyL_m _
      show PySem.W.AlikeAll (toPyL (cDt p :: ps.map cDt))
      rw [e]
      refine ⟨fun x hx y hy => ?_, fun x hx => ?_⟩
      · rw [List.map_map] at hx hy
        obtain ⟨a, _, rfl⟩ := List.mem_map.mp hx
        obtain ⟨b, _, rfl⟩ := List.mem_map.mp hy
        exact alike_cDt a b
      · rw [List.map_map] at hx
        obtain ⟨a, _, rfl⟩ := List.mem_map.mp hx
        show toPy (cDt a) ≠ _
        rw [toPy_cDt]
        intro e
        cases e
    · have hd' : ((p :: ps).map cDt)[i]? = some d := hd
      have hi' : (toPyL ((p :: ps).map cDt))[i]? = some (PySem.W.minD (toPy (cDt p)) (toPyL (ps.map cDt))) := hi
      obtain ⟨z, _, e, hm⟩ := minD_cDt ps p
      rw [toPyL_m, toPyL_m, e, List.map_map, List.getElem?_map] at hi'
      rw [List.getElem?_map] at hd'
      cases hx : (p :: ps)[i]? with
      | none =>
        rw [hx] at hd'
        cases hd'
      | some w =>
        rw [hx] at hd' hi'
        cases hd'
        have e1 : toPy (cDt w) = toPy (cDt z) := Option.some.inj hi'
        have e2 : w.1 = z.1 := by rw [← fst_cDt, ← fst_cDt z, e1]
        exact h w (List.mem_of_getElem? hx) fun y hy => by rw [e2]; exact hm y hy
/-! ### two fors -/
section
variable {α β : Type} {en : En} {mi : M (List D)} {mt : M Bool} {me : M D} {v w : Nat}
theorem lcS_map (enc : β → D) (wv : β → D) : ∀ (l : List β) (acc : List D) {Q : List D → Prop},
    (∀ b ∈ l, ∀ (Qy : D → Prop) (Qn : Prop), Qy (wv b) → mt (en.set v (.d (enc b))) fun c => if c = true then me (en.set v (.d (enc b))) Qy else Qn) →
    acc.length + l.length ≤ sizeLine → Q (acc ++ l.map wv) → lcS en v mt me (l.map enc) acc Q
  | [], acc, Q, _, _, h => by
    rw [List.map_nil, List.append_nil] at h
    exact h
  | b :: l, acc, Q, hs, hl, h => by
    rw [List.map_cons, ← List.singleton_append, ← List.append_assoc] at h
    rw [List.length_cons] at hl
    exact hs b List.mem_cons_self _ _ ⟨by omega, lcS_map enc wv l _ (fun c hc => hs c (List.mem_cons_of_mem _ hc)) (by rw [List.length_append, List.length_singleton]; omega) h⟩
theorem lc2_mapA (enc : α → D) (g : α → List β) (encB : β → D) (wv : β → D) : ∀ (l : List α) (acc : List D) {Q : List D → Prop},
    (∀ a ∈ l, ∀ R : List D → Prop, R ((g a).map encB) → mi (en.set v (.d (enc a))) R) →
    (∀ a ∈ l, ∀ b ∈ g a, ∀ (Qy : D → Prop) (Qn : Prop), Qy (wv b) → mt (((en.set v (.d (enc a))).set w .u).set w (.d (encB b))) fun c => if c = true then me (((en.set v (.d (enc a))).set w .u).set w (.d (encB b))) Qy else Qn) →
    acc.length + (l.flatMap g).length ≤ sizeLine → Q (acc ++ (l.flatMap g).map wv) → lcL2 en v w mi mt me (l.map enc) acc Q
  | [], acc, Q, _, _, _, h => by
    rw [List.flatMap_nil, List.map_nil, List.append_nil] at h
    exact h
  | a :: l, acc, Q, h1, h2, hl, h => by
    rw [List.flatMap_cons, List.length_append] at hl
    rw [List.flatMap_cons, List.map_append, ← List.append_assoc] at h
    refine h1 a List.mem_cons_self _ (lcS_map encB wv (g a) acc (fun b hb => h2 a List.mem_cons_self b hb) (by omega) ?_)
    exact lc2_mapA enc g encB wv l _ (fun c hc => h1 c (List.mem_cons_of_mem _ hc)) (fun c hc => h2 c (List.mem_cons_of_mem _ hc)) (by rw [List.length_append, List.length_map]; omega) h
theorem lc2_mapE (enc : α → D) (g : α → List β) (encB : β → D) (wv : β → D) {l : List α} {Q : List D → Prop}
    (h1 : ∀ a ∈ l, ∀ R : List D → Prop, R ((g a).map encB) → mi (en.set v (.d (enc a))) R)
    (h2 : ∀ a ∈ l, ∀ b ∈ g a, ∀ (Qy : D → Prop) (Qn : Prop), Qy (wv b) → mt (((en.set v (.d (enc a))).set w .u).set w (.d (encB b))) fun c => if c = true then me (((en.set v (.d (enc a))).set w .u).set w (.d (encB b))) Qy else Qn)
    (hl : (l.flatMap g).length ≤ sizeLine) (h : Q ((l.flatMap g).map wv)) : lcL2 en v w mi mt me (l.map enc) [] Q := lc2_mapA enc g encB wv l [] h1 h2 (by rw [List.length_nil, Nat.zero_add]; exact hl) h
end
theorem x_mLc2 {v w : Nat} {mi mi1 : M (List D)} {mt : M Bool} {me : M D} {en : En} {Q : List D → Prop} : mLc2 v w mi mi1 mt me en Q = mi en fun xs => lcL2 ((en.set w .u).set v .u) v w mi1 mt me xs [] Q := propext Iff.rfl
/-- sorted: numbers -/
theorem sortNI {ns : List Nat} {QL : List D → Prop} (q : ∀ ms : List Nat, ms.Perm ns → ms.Pairwise (· ≤ ·) → QL (ms.map iD)) : mSortF [.lst (ns.map iD)] QL := by
  rw [iD_map]
  show (match ints? ((ns.map fun n : Nat => (n : Int)).map .int) with | some ns => ∀ ms : List Int, ms.Perm ns → ms.Pairwise (· ≤ ·) → QL (ms.map .int) | none => False)
  rw [ints?_map]
  intro ms hp hs
  have hn : ∀ m ∈ ms, 0 ≤ m := fun m hm => by
    obtain ⟨k, _, rfl⟩ := List.mem_map.mp (hp.mem_iff.mp hm)
    omega
  have e : ms = (ms.map Int.toNat).map fun n : Nat => (n : Int) := by
    rw [List.map_map]
    exact (List.map_id ms).symm.trans (List.map_congr_left fun m hm => by
      have := hn m hm
      show m = ((m.toNat : Nat) : Int)
      omega)
  have hq : (ms.map Int.toNat).Perm ns := by
    have := hp.map Int.toNat
    rw [List.map_map] at this
    have e2 : ns.map (Int.toNat ∘ fun n : Nat => (n : Int)) = ns := (List.map_congr_left fun n _ => by show ((n : Int)).toNat = id n; rfl).trans (List.map_id ns)
    rw [e2] at this
    exact this
  have := q (ms.map Int.toNat) hq (List.pairwise_map.mpr (hs.imp fun {a b} h => Int.toNat_le_toNat h))
  rw [iD_map, ← e] at this
  exact this
theorem ixN_nat {n k : Nat} (h : k < n) : L2.ixN n (k : Int) = some k := by
  unfold L2.ixN
  rw [if_pos (by omega), if_pos (by omega)]
  rfl
/-- least of numbers -/
def minZ : List Int → Int
  | [] => 0
  | x :: xs => xs.foldl min x
theorem minZ_fold : ∀ (xs : List Int) (x : Int), (xs.foldl min x = x ∨ xs.foldl min x ∈ xs) ∧ xs.foldl min x ≤ x ∧ ∀ y ∈ xs, xs.foldl min x ≤ y
  | [], x => ⟨.inl rfl, Int.le_refl _, fun y hy => (List.not_mem_nil hy).elim⟩
  | z :: zs, x => by
    obtain ⟨h1, h2, h3⟩ := minZ_fold zs (min x z)
    rw [List.foldl_cons]
    refine ⟨?_, by omega, fun y hy => ?_⟩
    · rcases h1 with h1 | h1
      · rw [h1]
        by_cases h : z ≤ x
        · exact .inr (by rw [Int.min_eq_right h]; exact List.mem_cons_self)
        · exact .inl (Int.min_eq_left (by omega))
      · exact .inr (List.mem_cons_of_mem _ h1)
    · rcases List.mem_cons.mp hy with e | hy
      · omega
      · exact h3 y hy
theorem minZ_mem {l : List Int} (h : l ≠ []) : minZ l ∈ l := by
  cases l with
  | nil => exact absurd rfl h
  | cons x xs => exact List.mem_cons.mpr (minZ_fold xs x).1
theorem minZ_le {l : List Int} {y : Int} (h : y ∈ l) : minZ l ≤ y := by
  cases l with
  | nil => cases h
  | cons x xs =>
    rcases List.mem_cons.mp h with e | h
    · rw [e]
      exact (minZ_fold xs x).2.1
    · exact (minZ_fold xs x).2.2 y h
theorem minZ_eq {l : List Int} {m : Int} (h : m ∈ l) (hm : ∀ y ∈ l, m ≤ y) : minZ l = m := Int.le_antisymm (minZ_le h) (hm _ (minZ_mem (List.ne_nil_of_mem h)))
theorem minZI {ns : List Int} {Q : D → Prop} (h : ns ≠ []) (q : Q (.int (minZ ns))) : mMinB [.lst (ns.map .int)] Q := minI (List.length_pos_iff.mpr h) fun m hm hy => by
  rw [minZ_eq hm hy] at q
  exact q
theorem cut_fr {xs : List D} {a : Nat} (ha : a ≤ xs.length) : cutD xs (some (a : Int)) none = xs.drop a := by
  unfold cutD
  rw [HT.sIx_nat, HT.sIx_none, Nat.min_eq_left ha, List.take_of_length_le]
  rw [List.length_drop]
  omega
theorem cut_to {xs : List D} {b : Nat} (hb : b ≤ xs.length) : cutD xs none (some (b : Int)) = xs.take b := by
  unfold cutD
  rw [HT.sIx_nat, HT.sIx_none, List.drop_zero, Nat.sub_zero, Nat.min_eq_left hb]
theorem deqL_nats (l m : List Nat) : deqL (l.map iD) (m.map iD) = decide (l = m) := by
  induction l generalizing m with
  | nil => cases m <;> simp [deqL]
  | cons a l ih =>
    cases m with
    | nil => simp [deqL]
    | cons b m =>
      rw [List.map_cons, List.map_cons, deqL_cc, ih, deq_iD, Bool.eq_iff_iff]
      simp
theorem sumNT {ns : List Nat} {Q : D → Prop} (q : Q (iD ns.sum)) : mSum [.tup (ns.map iD)] Q := by
  rw [iD_map, x_sumT]
  have e : ((ns.map fun n : Nat => (n : Int)).sum : Int) = ((ns.sum : Nat) : Int) := by
    clear q
    induction ns with
    | nil => rfl
    | cons n ns ih => rw [List.map_cons, List.sum_cons, List.sum_cons, ih, Int.natCast_add]
  rw [e]
  exact q
end DL

set_option Elab.async false
set_option linter.all false
set_option maxRecDepth 100000
set_option maxHeartbeats 0
namespace LW
open PySem PySem.Spec PyProof.Rows L2 DL
def b_is_span_pair : MS :=
  (sSq (sIf (mOr (mNot (mT (mCall mIsi (aC (gV 0) (aC (mC (.ty "tuple")) aN))))) (mT (m2 mNe (mCall mLen (aC (gV 0) aN)) (mC (.int 2))))) (sRet (mC (.bl false))) sNx)
  (sRet (mAndV (mCall mAll (aC (mL (mLc [1] (mSeq (gV 0)) (gN 1) tTrue (mAndV (mCall mIsi (aC (gV 1) (aC (mC (.ty "int")) aN))) (mNotV (mCall mIsi (aC (gV 1) (aC (mC (.ty "bool")) aN))))))) aN)) (m2 mLtB (m2 mIx (gV 0) (mC (.int 0))) (m2 mIx (gV 0) (mC (.int 1)))))))

def f_is_span_pair : List D → (D → Prop) → Prop := fnM 1 2 b_is_span_pair

def b_is_span_row : MS :=
  (sSq (sIf (mOr (mNot (mT (mCall mIsi (aC (gV 0) (aC (mC (.ty "tuple")) aN))))) (mNot (mT (mCall mAll (aC (mL (mLc [3] (mSeq (gV 0)) (gN 3) tTrue (mCall f_is_span_pair (aC (gD 3) aN)))) aN))))) (sRet (mC (.bl false))) sNx)
  (sRet (mCall mAll (aC (mL (mLc [1, 2] (mZipB (aC (gV 0) (aC (mSl (gV 0) (oS (mC (.int 1))) oN) aN))) (gT 2 (gC (gN 1) (gC (gN 2) gE))) tTrue (m2 mLeB (m2 mIx (gV 1) (mC (.int 0))) (m2 mIx (gV 2) (mC (.int 0)))))) aN))))

def f_is_span_row : List D → (D → Prop) → Prop := fnM 1 4 b_is_span_row

def b_at_once_1 : MS :=
  (sSq (sAsg (mL (mCatF (mL (mLc [5] (mSeq (gV 1)) (gN 5) (mT (m2 mGtB (gV 5) (gV 3))) (gD 5))) (mL (mLst (aC (gD 4) aN))))) (gN 1))
  (sAsg (mCall mMax2 (aC (gV 2) (aC (mCall mLen (aC (gV 1) aN)) aN))) (gN 2)))

def b_at_once_2 : MS :=
  (sSq (sFor (mSeq (gD 0)) (gT 2 (gC (gN 3) (gC (gN 4) gE))) b_at_once_1)
  (sRet (gD 2)))

def b_at_once : MS :=
  (sSq (sPar 1 2 (aC (mL (mLst aN)) (aC (mC (.int 0)) aN)))
  b_at_once_2)

def f_at_once : List D → (D → Prop) → Prop := fnM 1 6 b_at_once

def b_rooms_as_they_come_1 : MS :=
  (sSq (sStx 1 (gD 4) (m2 mIx (gV 5) (mC (.int 0))))
  (sApp 2 (m2 mIx (gV 5) (mC (.int 0)))))

def b_rooms_as_they_come_2 : MS :=
  (sSq (sIf (mT (m2 mEqZ (gV 5) (mL (mLst aN)))) (sSq (sAsg (mL (mLst (aC (mCall mLen (aC (gV 1) aN)) aN))) (gN 5))
  (sApp 1 (gD 4))) sNx)
  b_rooms_as_they_come_1)

def b_rooms_as_they_come_3 : MS :=
  (sSq (sAsg (mL (mLc [6, 7] (mEnumB (aC (gV 1) aN)) (gT 2 (gC (gN 6) (gC (gN 7) gE))) (mT (m2 mLeB (gV 7) (gV 3))) (gD 6))) (gN 5))
  b_rooms_as_they_come_2)

def b_rooms_as_they_come_4 : MS :=
  (sSq (sFor (mSeq (gD 0)) (gT 2 (gC (gN 3) (gC (gN 4) gE))) b_rooms_as_they_come_3)
  (sRet (mCall mTuple (aC (gV 2) aN))))

def b_rooms_as_they_come : MS :=
  (sSq (sPx 1 2 (xF (mLst aN)) (xF (mLst aN)))
  b_rooms_as_they_come_4)

def f_rooms_as_they_come : List D → (D → Prop) → Prop := fnM 1 8 b_rooms_as_they_come

def b_does_fit : MS :=
  (sRet (m2 mLeB (mCall f_at_once (aC (mL (mLc [3] (mSeq (gV 1)) (gN 3) tTrue (m2 mIx (gV 0) (gV 3)))) aN)) (gV 2)))

def f_does_fit : List D → (D → Prop) → Prop := fnM 3 4 b_does_fit

abbrev f__law_pick : List D → (D → Prop) → Prop := pickM

def b__law_draw_spans_1 : MS :=
  (sSq (sAsg (mCall f__law_pick (aC (gD 0) (aC (gD 2) aN))) (gN 6))
  (sApp 4 (mTup (aC (gD 6) (aC (m2 mAdd (m2 mAdd (gV 6) (mC (.int 1))) (mCall f__law_pick (aC (gD 0) (aC (gD 3) aN)))) aN)))))

def b__law_draw_spans_2 : MS :=
  (sSq (sAsg (mL (mCall mSortF (aC (mL (mLc [6, 8] (mSeq (gV 4)) (gT 2 (gC (gN 6) (gC (gN 8) gE))) tTrue (gD 6))) aN))) (gN 7))
  (sRet (mCall mTuple (aC (mL (mLc [6, 9, 10] (mZipB (aC (gV 7) (aC (gV 4) aN))) (gT 2 (gC (gN 6) (gC (gT 2 (gC (gN 9) (gC (gN 10) gE))) gE))) tTrue (mTup (aC (gD 6) (aC (m2 mSub (m2 mAdd (gV 6) (gV 10)) (gV 9)) aN))))) aN))))

def b__law_draw_spans_3 : MS :=
  (sSq (sFor (mR1 (aC (mCall f__law_pick (aC (gD 0) (aC (m2 mAdd (gV 1) (mC (.int 1))) aN))) aN)) (gN 5) b__law_draw_spans_1)
  b__law_draw_spans_2)

def b__law_draw_spans : MS :=
  (sSq (sOwn (mLst aN) 4)
  b__law_draw_spans_3)

def f__law_draw_spans : List D → (D → Prop) → Prop := fnM 4 11 b__law_draw_spans

def b__law_at_once : MS :=
  (sRet (mCall mMaxB (aC (mL (mCatF (mL (mLst (aC (mC (.int 0)) aN))) (mL (mLc [1] (mSeq (mL (mLc [2, 3] (mSeq (gV 0)) (gT 2 (gC (gN 2) (gC (gN 3) gE))) tTrue (gD 2)))) (gN 1) tTrue (mCall mLen (aC (mL (mLc [2, 3] (mSeq (gV 0)) (gT 2 (gC (gN 2) (gC (gN 3) gE))) (mT (mChain mLeB mLtB (gV 2) (gV 1) (gV 3))) (mC (.int 1)))) aN)))))) aN)))

def f__law_at_once : List D → (D → Prop) → Prop := fnM 1 4 b__law_at_once

def b_law_1 : MS :=
  (sSq (sAsg (mL (mLc [14] (mR1 (aC (gV 7) aN)) (gN 14) (mT (m2 mGtB (m2 mIx (m2 mIx (gV 3) (gV 14)) (mC (.int 1))) (gV 8))) (m2 mIx (gV 6) (gV 14)))) (gN 10))
  (sApp 6 (m2 mIx (mL (mLc [16] (mR1 (aC (mCall mLen (aC (gV 3) aN)) aN)) (gN 16) (mT (m2 mNotIn (gV 16) (gV 10))) (gD 16))) (mC (.int 0)))))

def b_law_2 : MS :=
  (sIf (mT (mCall mAny (aC (mL (mLc [14] (mR1 (aC (gV 7) aN)) (gN 14) tTrue (mAndV (m2 mEq (m2 mIx (gV 5) (gV 14)) (m2 mIx (gV 5) (gV 7))) (m2 mGtB (m2 mIx (m2 mIx (gV 3) (gV 14)) (mC (.int 1))) (m2 mIx (m2 mIx (gV 3) (gV 7)) (mC (.int 0))))))) aN))) (sRet (mC (.bl false))) sNx)

def b_law_3 : MS :=
  (sIf (mT (m2 mNe (mCall mReprE (aC (mCall f_does_fit (aC (gD 3) (aC (gD 11) (aC (gD 12) aN)))) aN)) (mCall mReprE (aC (m2 mLeB (mCall f__law_at_once (aC (mL (mLc [7] (mSeq (gV 11)) (gN 7) tTrue (m2 mIx (gV 3) (gV 7)))) aN)) (gV 12)) aN)))) (sRet (mC (.bl false))) sNx)

def b_law_4 : MS :=
  (sSq (sFor (mR1 (aC (mC (.int 5)) aN)) (gN 12) b_law_3)
  (sIf (mAnd (mT (m2 mNeZ (gV 3) (mTup aN))) (mAnd (mT (m2 mLtB (m2 mIx (m2 mIx (gV 3) (mC (.int 0))) (mC (.int 0))) (m2 mIx (m2 mIx (gV 3) (m1 mNeg (mC (.int 1)))) (mC (.int 0))))) (mT (m2 mIsNot (mCall f_is_span_row (aC (mRevB (gV 3)) aN)) (mC (.bl false)))))) (sRet (mC (.bl false))) sNx))

def b_law_5 : MS :=
  (sSq (sAsg (mCall mTuple (aC (mL (mLc [7] (mR1 (aC (mCall mLen (aC (gV 3) aN)) aN)) (gN 7) (mT (m2 mGtB (mCall f__law_pick (aC (gD 1) (aC (mC (.int 3)) aN))) (mC (.int 0)))) (gD 7))) aN)) (gN 11))
  b_law_4)

def b_law_6 : MS :=
  (sSq (sFor (mR1 (aC (mCall mLen (aC (gV 3) aN)) aN)) (gN 7) b_law_2)
  b_law_5)

def b_law_7 : MS :=
  (sSq (sIf (mOr (mT (m2 mNe (mCall mReprE (aC (gV 5) aN)) (mCall mReprE (aC (mCall mTuple (aC (gV 6) aN)) aN)))) (mT (m2 mNe (mCall mLenD (aC (mCall mDictP (aC (mL (mLc [16] (mSeq (gV 5)) (gN 16) tTrue (mTup (aC (gD 16) (aC (mC (.int 0)) aN))))) aN)) aN)) (gV 4)))) (sRet (mC (.bl false))) sNx)
  b_law_6)

def b_law_8 : MS :=
  (sSq (sFor (mEnumB (aC (gD 3) aN)) (gT 2 (gC (gN 7) (gC (gT 2 (gC (gN 8) (gC (gN 9) gE))) gE))) b_law_1)
  b_law_7)

def b_law_9 : MS :=
  (sSq (sPx 5 6 (xD (mCall f_rooms_as_they_come (aC (gD 3) aN))) (xF (mLst aN)))
  b_law_8)

def b_law_10 : MS :=
  (sSq (sIf (mOr (mT (m2 mIsNot (mCall f_is_span_row (aC (gD 3) aN)) (mC (.bl true)))) (mT (m2 mNe (mCall f_at_once (aC (gD 3) aN)) (gV 4)))) (sRet (mC (.bl false))) sNx)
  b_law_9)

def b_law_11 : MS :=
  (sSq (sAsg (mCall f__law_at_once (aC (gD 3) aN)) (gN 4))
  b_law_10)

def b_law_12 : MS :=
  (sSq (sAsg (mCall f__law_draw_spans (aC (gD 1) (aC (mC (.int 12)) (aC (m2 mIx (mL (mLst (aC (mC (.int 4)) (aC (mC (.int 12)) (aC (mC (.int 30)) aN))))) (gV 2)) (aC (m2 mIx (mL (mLst (aC (mC (.int 3)) (aC (mC (.int 6)) (aC (mC (.int 9)) aN))))) (gV 2)) aN))))) (gN 3))
  b_law_11)

def b_law_13 : MS :=
  (sSq (sAsg (mL (mCatF (gV 13) (mL (mLst (aC (mTup (aC (mTup (aC (mC (.int 1)) (aC (mC (.int 2)) aN))) (aC (mTup (aC (mC (.int 0)) (aC (mC (.int 3)) aN))) aN))) (aC (mTup (aC (mL (mLst (aC (mC (.int 0)) (aC (mC (.int 1)) aN)))) aN)) aN)))))) (gN 13))
  (sRet (mAndV (mNotV (mCall mAny (aC (mL (mLc [15] (mSeq (gV 13)) (gN 15) tTrue (mCall f_is_span_row (aC (gD 15) aN)))) aN))) (m2 mIs (mCall f_is_span_row (aC (mTup aN) aN)) (mC (.bl true))))))

def b_law_14 : MS :=
  (sSq (sAsg (mL (mLst (aC (mC .non) (aC (mC (.int 7)) (aC (mL (mLst (aC (mTup (aC (mC (.int 0)) (aC (mC (.int 1)) aN))) aN))) (aC (mTup (aC (mTup (aC (mC (.int 0)) (aC (mC (.int 0)) aN))) aN)) (aC (mTup (aC (mTup (aC (mC (.int 1)) (aC (mC (.int 0)) aN))) aN)) (aC (mTup (aC (mTup (aC (mC (.int 0)) (aC (mC (.bl true)) aN))) aN)) (aC (mTup (aC (mTup (aC (mC (.int 0)) aN)) aN)) (aC (mTup (aC (mTup (aC (mC (.int 0)) (aC (mC (.int 1)) (aC (mC (.int 2)) aN)))) aN)) (aC (mTup (aC (mC .non) aN)) (aC (mTup (aC (mC (.str "01")) aN)) aN)))))))))))) (gN 13))
  b_law_13)

def b_law : MS :=
  (sSq (sFor (mR1 (aC (mC (.int 3)) aN)) (gN 2) b_law_12)
  b_law_14)
end LW

set_option Elab.async false
set_option linter.all false
set_option maxRecDepth 100000
set_option maxHeartbeats 0
namespace LW
open PySem PySem.Spec PyProof.Rows L2 DL
def topS (i : Nat) : Stmt := PySem.Challenge.pw_beforeitcomes_k56_whole_rooms_as_spans_c.main.body.getD i (.Pass ⟨0, 0, 0, 0⟩)
structure Bt (mg : Str → Option Value) : Prop where
  z_abs : mg "abs" = none
  z_all : mg "all" = none
  z_any : mg "any" = none
  z_bool : mg "bool" = none
  z_dict : mg "dict" = none
  z_enumerate : mg "enumerate" = none
  z_int : mg "int" = none
  z_isinstance : mg "isinstance" = none
  z_len : mg "len" = none
  z_max : mg "max" = none
  z_range : mg "range" = none
  z_repr : mg "repr" = none
  z_sorted : mg "sorted" = none
  z_tuple : mg "tuple" = none
  z_zip : mg "zip" = none
abbrev s_is_span_pair : Stmt := topS 1
abbrev N_is_span_pair : List Str := ["value", "x"]
theorem sc_is_span_pair : FnScope N_is_span_pair ["value"] (defScope s_is_span_pair) := ⟨rfl, rfl, rfl, by decide +kernel, rfl, by decide +kernel, by decide +kernel⟩
abbrev s_is_span_row : Stmt := topS 2
abbrev N_is_span_row : List Str := ["value", "one", "late", "span"]
theorem sc_is_span_row : FnScope N_is_span_row ["value"] (defScope s_is_span_row) := ⟨rfl, rfl, rfl, by decide +kernel, rfl, by decide +kernel, by decide +kernel⟩
abbrev s_at_once : Stmt := topS 3
abbrev N_at_once : List Str := ["spans", "ends", "most", "a", "b", "end"]
theorem sc_at_once : FnScope N_at_once ["spans"] (defScope s_at_once) := ⟨rfl, rfl, rfl, by decide +kernel, rfl, by decide +kernel, by decide +kernel⟩
abbrev s_rooms_as_they_come : Stmt := topS 4
abbrev N_rooms_as_they_come : List Str := ["spans", "ends", "found", "a", "b", "free", "room", "end"]
theorem sc_rooms_as_they_come : FnScope N_rooms_as_they_come ["spans"] (defScope s_rooms_as_they_come) := ⟨rfl, rfl, rfl, by decide +kernel, rfl, by decide +kernel, by decide +kernel⟩
abbrev s_does_fit : Stmt := topS 5
abbrev N_does_fit : List Str := ["spans", "lot", "k", "i"]
theorem sc_does_fit : FnScope N_does_fit ["spans", "lot", "k"] (defScope s_does_fit) := ⟨rfl, rfl, rfl, by decide +kernel, rfl, by decide +kernel, by decide +kernel⟩
abbrev s__law_open_cells : Stmt := topS 7
abbrev N__law_open_cells : List Str := ["script", "stirred", "cell", "cells"]
theorem sc__law_open_cells : FnScope N__law_open_cells ["script"] (defScope s__law_open_cells) := ⟨rfl, rfl, rfl, by decide +kernel, rfl, by decide +kernel, by decide +kernel⟩
abbrev s__law_pick : Stmt := topS 8
abbrev N__law_pick : List Str := ["source", "most", "cells", "others", "lap", "stirred"]
theorem sc__law_pick : FnScope N__law_pick ["source", "most"] (defScope s__law_pick) := ⟨rfl, rfl, rfl, by decide +kernel, rfl, by decide +kernel, by decide +kernel⟩
abbrev s__law_draw_spans : Stmt := topS 9
abbrev N__law_draw_spans : List Str := ["source", "many", "far", "most", "rows", "i", "a", "begins", "b", "early", "late"]
theorem sc__law_draw_spans : FnScope N__law_draw_spans ["source", "many", "far", "most"] (defScope s__law_draw_spans) := ⟨rfl, rfl, rfl, by decide +kernel, rfl, by decide +kernel, by decide +kernel⟩
abbrev s__law_at_once : Stmt := topS 10
abbrev N__law_at_once : List Str := ["spans", "place", "a", "b"]
theorem sc__law_at_once : FnScope N__law_at_once ["spans"] (defScope s__law_at_once) := ⟨rfl, rfl, rfl, by decide +kernel, rfl, by decide +kernel, by decide +kernel⟩
abbrev s_law : Stmt := topS 11
abbrev N_law : List Str := ["script", "source", "lap", "spans", "most", "rooms", "due", "i", "a", "b", "taken", "lot", "k", "odd", "j", "value", "room"]
theorem sc_law : FnScope N_law ["script"] (defScope s_law) := ⟨rfl, rfl, rfl, by decide +kernel, rfl, by decide +kernel, by decide +kernel⟩
section
variable {P : Program} {w : World} {K : Frg} {mg : Str → Option Value} {base : Heap}
theorem ok_is_span_pair (T : Bt mg) {f : Addr} {fd : FuncData} (F : Fun K "is_span_pair" "is_span_pair" s_is_span_pair f fd) (hm : mg "is_span_pair" = some (.ref f)) (hb : Binds K fd ["value"] []) : FnD P w K mg base 1 "is_span_pair" f_is_span_pair :=
  fnd_mk F (fn_body (N := N_is_span_pair) F sc_is_span_pair fun cdv A outer s H E hr hG =>
  (sd_cons (sd_if (PWd.t (pwd_or (ptd_not (ptd_val (pd_callB (fun _ => call_isiA (K := K) rfl) cs_isi (fun _ => rfl) (fun _ => T.z_isinstance) (by decide +kernel) (pab_cons (pbv 0) (pab_cons (PD.br (pd_ty (n := "tuple") (fun _ => T.z_tuple))) pab_nil))) (fun _ _ => rfl))) (pwd_or1 (ptd_cmp (fun _ => op_neA (K := K) rfl hr) os_ne (PD.br (pd_callB (fun _ => call_lenA (K := K) rfl) cs_len (fun _ => rfl) (fun _ => T.z_len) (by decide +kernel) (pab_cons (pbv 0) pab_nil))) (PD.br pd_int) (nomark _))))) (sd_one (sd_ret pd_bl)) sd_nil)
  (sd_one (sd_ret (pd_and (pd_callB (fun _ => call_allA (K := K) rfl rfl) cs_all (fun _ => rfl) (fun _ => T.z_all) (by decide +kernel) (pab_cons (PF.br (plc [("x", 1)] (fun _ => sc_is_span_pair.nd) (fun _ => (blkOk_by (N := N_is_span_pair) (sc := defScope s_is_span_pair) (by decide +kernel))) (pib_seq (K := K) (fun _ => rfl) (pbv 0)) (pgn 1 (fun _ => sc_is_span_pair.nd)) ptsd_nil (pd_and (pd_callB (fun _ => call_isiA (K := K) rfl) cs_isi (fun _ => rfl) (fun _ => T.z_isinstance) (by decide +kernel) (pab_cons (pbv 1) (pab_cons (PD.br (pd_ty (n := "int") (fun _ => T.z_int))) pab_nil))) (pd_one (pd_not (pd_callB (fun _ => call_isiA (K := K) rfl) cs_isi (fun _ => rfl) (fun _ => T.z_isinstance) (by decide +kernel) (pab_cons (pbv 1) (pab_cons (PD.br (pd_ty (n := "bool") (fun _ => T.z_bool))) pab_nil)))))))) pab_nil)) (pd_one (pd_cmp (fun _ => op_ltB (K := K) rfl hr) os_ltB (PD.br (pd_ix (fun _ => rfl) (pbv 0) (PD.br pd_int) (fun _ _ => rfl))) (PD.br (pd_ix (fun _ => rfl) (pbv 0) (PD.br pd_int) (fun _ _ => rfl))) (nomark _)))))))) hm hb
theorem ok_is_span_row (T : Bt mg) (F_is_span_pair : FnD P w K mg base 1 "is_span_pair" f_is_span_pair) {f : Addr} {fd : FuncData} (F : Fun K "is_span_row" "is_span_row" s_is_span_row f fd) (hm : mg "is_span_row" = some (.ref f)) (hb : Binds K fd ["value"] []) : FnD P w K mg base 2 "is_span_row" f_is_span_row :=
  fnd_mk F (fn_body (N := N_is_span_row) F sc_is_span_row fun cdv A outer s H E hr hG =>
  (sd_cons (sd_if (PWd.t (pwd_or (ptd_not (ptd_val (pd_callB (fun _ => call_isiA (K := K) rfl) cs_isi (fun _ => rfl) (fun _ => T.z_isinstance) (by decide +kernel) (pab_cons (pbv 0) (pab_cons (PD.br (pd_ty (n := "tuple") (fun _ => T.z_tuple))) pab_nil))) (fun _ _ => rfl))) (pwd_or1 (ptd_not (ptd_val (pd_callB (fun _ => call_allA (K := K) rfl rfl) cs_all (fun _ => rfl) (fun _ => T.z_all) (by decide +kernel) (pab_cons (PF.br (plc [("span", 3)] (fun _ => sc_is_span_row.nd) (fun _ => (blkOk_by (N := N_is_span_row) (sc := defScope s_is_span_row) (by decide +kernel))) (pib_seq (K := K) (fun _ => rfl) (pbv 0)) (pgn 3 (fun _ => sc_is_span_row.nd)) ptsd_nil (pcall F_is_span_pair (fun _ => hr.mono (by decide)) (fun _ => hG) (pad_cons (pdv 3) pad_nil)))) pab_nil)) (fun _ _ => rfl)))))) (sd_one (sd_ret pd_bl)) sd_nil)
  (sd_one (sd_ret (pd_callB (fun _ => call_allA (K := K) rfl rfl) cs_all (fun _ => rfl) (fun _ => T.z_all) (by decide +kernel) (pab_cons (PF.br (plc [("one", 1), ("late", 2)] (fun _ => sc_is_span_row.nd) (fun _ => (blkOk_by (N := N_is_span_row) (sc := defScope s_is_span_row) (by decide +kernel))) (pib_zipX (K := K) (fun _ => rfl) (fun _ => rfl) (fun _ => T.z_zip) (pab_cons (pbv 0) (pab_cons (PD.br (pd_slice (fun _ => rfl) (pbv 0) (pod_some (PD.br pd_int)) pod_none)) pab_nil))) (pgt 2 (pgc (pgn 1 (fun _ => sc_is_span_row.nd)) (pgc (pgn 2 (fun _ => sc_is_span_row.nd)) pgsd_nil))) ptsd_nil (pd_cmp (fun _ => op_leB (K := K) rfl hr) os_leB (PD.br (pd_ix (fun _ => rfl) (pbv 1) (PD.br pd_int) (fun _ _ => rfl))) (PD.br (pd_ix (fun _ => rfl) (pbv 2) (PD.br pd_int) (fun _ _ => rfl))) (nomark _)))) pab_nil)))))) hm hb
theorem ok_at_once (T : Bt mg) {f : Addr} {fd : FuncData} (F : Fun K "at_once" "at_once" s_at_once f fd) (hm : mg "at_once" = some (.ref f)) (hb : Binds K fd ["spans"] []) : FnD P w K mg base 1 "at_once" f_at_once :=
  fnd_mk F (fn_body (N := N_at_once) F sc_at_once fun cdv A outer s H E hr hG =>
  (sd_cons (spar 1 2 sc_at_once.nd (pad_cons (PF.d (pf_lst pad_nil)) (pad_cons pd_int pad_nil)))
  (sd_cons (sfor (vs := [3, 4]) (pid_seq (K := K) (fun _ => rfl) (pdv 0)) (pgt 2 (pgc (pgn 3 (fun _ => sc_at_once.nd)) (pgc (pgn 4 (fun _ => sc_at_once.nd)) pgsd_nil))) (sd_cons (sset 1 sc_at_once.nd (PF.d (pf_cat (PF.br (plc [("end", 5)] (fun _ => sc_at_once.nd) (fun _ => (blkOk_by (N := N_at_once) (sc := defScope s_at_once) (by decide +kernel))) (pib_seq (K := K) (fun _ => rfl) (pbv 1)) (pgn 5 (fun _ => sc_at_once.nd)) (ptsd_one (ptd_cmp (fun _ => op_gtB (K := K) rfl hr) os_gtB (pbv 5) (pbv 3) (nomark _))) (pdv 5))) (PF.br (pf_lst (pad_cons (pdv 4) pad_nil))))))
  (sd_one (sset 2 sc_at_once.nd (pd_callB (fun _ => call_max2 rfl) cs_max2 (fun _ => rfl) (fun _ => T.z_max) (by decide +kernel) (pab_cons (pbv 2) (pab_cons (PD.br (pd_callB (fun _ => call_lenA (K := K) rfl) cs_len (fun _ => rfl) (fun _ => T.z_len) (by decide +kernel) (pab_cons (pbv 1) pab_nil))) pab_nil)))))))
  (sd_one (sd_ret (pdv 2)))))) hm hb
theorem ok_rooms_as_they_come (T : Bt mg) {f : Addr} {fd : FuncData} (F : Fun K "rooms_as_they_come" "rooms_as_they_come" s_rooms_as_they_come f fd) (hm : mg "rooms_as_they_come" = some (.ref f)) (hb : Binds K fd ["spans"] []) : FnD P w K mg base 1 "rooms_as_they_come" f_rooms_as_they_come :=
  fnd_mk F (fn_body (N := N_rooms_as_they_come) F sc_rooms_as_they_come fun cdv A outer s H E hr hG =>
  (sd_cons (spx 1 2 sc_rooms_as_they_come.nd (PF.x (pf_lst pad_nil)) (PF.x (pf_lst pad_nil)))
  (sd_cons (sfor (vs := [3, 4]) (pid_seq (K := K) (fun _ => rfl) (pdv 0)) (pgt 2 (pgc (pgn 3 (fun _ => sc_rooms_as_they_come.nd)) (pgc (pgn 4 (fun _ => sc_rooms_as_they_come.nd)) pgsd_nil))) (sd_cons (slc_d 5 [("room", 6), ("end", 7)] sc_rooms_as_they_come.nd (blkOk_by (N := N_rooms_as_they_come) (sc := defScope s_rooms_as_they_come) (by decide +kernel)) (sw_true rfl rfl rfl (by decide +kernel)) (pib_enumB (K := K) (fun _ => rfl) (fun _ => rfl) (fun _ => T.z_enumerate) (pab_cons (pbv 1) pab_nil)) (pgt 2 (pgc (pgn 6 (fun _ => sc_rooms_as_they_come.nd)) (pgc (pgn 7 (fun _ => sc_rooms_as_they_come.nd)) pgsd_nil))) (ptsd_one (ptd_cmp (fun _ => op_leB (K := K) rfl hr) os_leB (pbv 7) (pbv 3) (nomark _))) (pdv 6))
  (sd_cons (sd_if (ptd_cmp (fun _ => op_eqZ (K := K) rfl hr) os_eqZ (pbv 5) (PF.br (pf_lst pad_nil)) (nomark _)) (sd_cons (sset 5 sc_rooms_as_they_come.nd (PF.d (pf_lst (pad_cons (pd_callB (fun _ => call_lenA (K := K) rfl) cs_len (fun _ => rfl) (fun _ => T.z_len) (by decide +kernel) (pab_cons (pbv 1) pab_nil)) pad_nil))))
  (sd_one (sapp 1 (pdv 4)))) sd_nil)
  (sd_cons (sstx 1 (pdv 4) (PD.br (pd_ix (fun _ => rfl) (pbv 5) (PD.br pd_int) (fun _ _ => rfl))))
  (sd_one (sapp 2 (pd_ix (fun _ => rfl) (pbv 5) (PD.br pd_int) (fun _ _ => rfl))))))))
  (sd_one (sd_ret (pd_callT (fun _ => call_tupA (K := K) rfl) cs_tuple (fun _ => rfl) (fun _ => T.z_tuple) (by decide +kernel) (pab_cons (pbv 2) pab_nil))))))) hm hb
theorem ok_does_fit (T : Bt mg) (F_at_once : FnD P w K mg base 1 "at_once" f_at_once) {f : Addr} {fd : FuncData} (F : Fun K "does_fit" "does_fit" s_does_fit f fd) (hm : mg "does_fit" = some (.ref f)) (hb : Binds K fd ["spans", "lot", "k"] []) : FnD P w K mg base 2 "does_fit" f_does_fit :=
  fnd_mk F (fn_body (N := N_does_fit) F sc_does_fit fun cdv A outer s H E hr hG =>
  (sd_one (sd_ret (pd_cmp (fun _ => op_leB (K := K) rfl hr) os_leB (PD.br (pcall F_at_once (fun _ => hr.mono (by decide)) (fun _ => hG) (pad_cons (PF.d (plc [("i", 3)] (fun _ => sc_does_fit.nd) (fun _ => (blkOk_by (N := N_does_fit) (sc := defScope s_does_fit) (by decide +kernel))) (pib_seq (K := K) (fun _ => rfl) (pbv 1)) (pgn 3 (fun _ => sc_does_fit.nd)) ptsd_nil (pd_ix (fun _ => rfl) (pbv 0) (pbv 3) (fun _ _ => rfl)))) pad_nil))) (pbv 2) (nomark _))))) hm hb
theorem ok__law_open_cells (T : Bt mg) {f : Addr} {fd : FuncData} (F : Fun K "_law_open_cells" "_law_open_cells" s__law_open_cells f fd) : FnG P w K mg base 1 f fd ["script"] (spOpen K) := by
  refine FnG.of (F.ok sc__law_open_cells (fun vs H Q E h => ?_) (fun cdv A outer s H vs Q E hr h => ?_))
  · obtain ⟨a, ns, rfl, _⟩ := h
    rfl
  · exact ⟨_, pss_cons (ps_set (i := 1) sc__law_open_cells.nd rfl (.inl rfl) pe_int) (pss_cons (ps_for PassesOwn.never rfl (pi_list (pv 0)) (pg_name (i := 2) sc__law_open_cells.nd rfl (by first | exact Or.inl rfl | exact Or.inr rfl)) (pss_one (ps_set (i := 1) sc__law_open_cells.nd rfl (.inl rfl) (pe_op op_mod (pe_callTy call_int1 (by rfl) T.z_int (by decide +kernel) (pa_cons ((pe_op op_add (pe_op op_add (pe_op op_mul (pv 1) pe_int) (pe_op op_mul (pv 2) pe_int)) pe_int)) pa_nil)) pe_int)))) (pss_cons (ps_setLc (i := 3) (own := [("cell", 2)]) rfl sc__law_open_cells.nd rfl rfl (sw_true rfl rfl rfl (by decide +kernel)) (pi_list (pv 0)) (blkOk_by (N := N__law_open_cells) (sc := defScope s__law_open_cells) (by decide +kernel)) (fun _ _ _ _ _ => pg_name (i := 2) sc__law_open_cells.nd rfl (by first | exact Or.inl rfl | exact Or.inr rfl)) (fun _ _ _ _ _ => pts_nil) (fun _ _ _ _ _ => pe_callB call_abs (by rfl) T.z_abs (by decide +kernel) (pa_cons (pv 2) pa_nil))) (pss_one (ps_ret (pe_disp (pps_cons pe_str (pe_revL (pv 3)) (pps_cons pe_str pe_int (pps_cons pe_str (pv 1) (pps_cons pe_str pe_int pps_nil)))) (by rfl) (by rfl) (fun z => by cases z) (by decide)))))), openA_rd h⟩
theorem ok__law_pick (T : Bt mg) {f : Addr} {fd : FuncData} (F : Fun K "_law_pick" "_law_pick" s__law_pick f fd) : FnG P w K mg base 1 f fd ["source", "most"] spPick := by
  refine FnG.of (F.ok sc__law_pick (fun vs H Q E h => ?_) (fun cdv A outer s H vs Q E hr h => ?_))
  · obtain ⟨_, _, _, rfl, _⟩ := h
    rfl
  · have hu := hu_of hr
    exact ⟨_, (pss_cons (ps_if (pt_cmpR op_lt (pv 1) pe_int (nomark _)) (pss_one (ps_ret pe_int)) pss_nil)
      (pss_cons (ps_set (i := 2) sc__law_pick.nd rfl (.inl rfl) ((pe_dget hu (pv 0) pe_str (fun _ _ => rfl))))
      (pss_cons (ps_while PassesOwn.never (PW.pt (pw_and (pt_cmpR op_lt (pe_dget hu (pv 0) pe_str (fun _ _ => rfl)) pe_int (nomark _)) (pw_and1 (pt_cmpR op_gt (pe_callB call_len_seq (by rfl) T.z_len (by decide +kernel) (pa_cons (pv 2) pa_nil)) pe_int (nomark _))))) (pss_one (ps_dput hu (pv 0) pe_str (pe_bm0 PySem.F.plainAttrs_list PySem.F.slot_list_pop PySem.F.type_list_pop mt_pop (pv 2)) rfl)))
      (pss_cons (ps_set (i := 3) sc__law_pick.nd rfl (.inl rfl) ((pe_dget hu (pv 0) pe_str (fun _ _ => rfl))))
      (pss_cons (ps_if (pt_cmpR op_gt (pv 3) pe_int (nomark _)) (pss_cons (ps_dput hu (pv 0) pe_str (pe_op op_fdivW (pv 3) (pv 1)) rfl) (pss_one (ps_ret (pe_op op_mod (pe_callTy call_int1 (by rfl) T.z_int (by decide +kernel) (pa_cons (pv 3) pa_nil)) (pv 1))))) pss_nil)
      (pss_cons (ps_dput hu (pv 0) pe_str (pe_op op_add (pe_dget hu (pv 0) pe_str (fun _ _ => rfl)) pe_int) rfl)
      (pss_cons (ps_set (i := 4) sc__law_pick.nd rfl (.inl rfl) ((pe_dget hu (pv 0) pe_str (fun _ _ => rfl))))
      (pss_cons (ps_set (i := 5) sc__law_pick.nd rfl (.inl rfl) (pe_op op_mod (pe_callTy call_int1 (by rfl) T.z_int (by decide +kernel) (pa_cons (pe_op op_add (pe_dget hu (pv 0) pe_str (fun _ _ => rfl)) (pe_op op_mul (pv 4) pe_int)) pa_nil)) pe_int))
      (pss_cons (ps_set (i := 5) sc__law_pick.nd rfl (.inl rfl) (pe_op op_mod (pe_callTy call_int1 (by rfl) T.z_int (by decide +kernel) (pa_cons (pe_op op_add (pe_op op_mul (pv 5) (pv 5)) (pe_op op_mul (pv 4) pe_int)) pa_nil)) pe_int))
      (pss_one (ps_ret (pe_op op_mod (pe_callTy call_int1 (by rfl) T.z_int (by decide +kernel) (pa_cons (pe_op op_fdiv (pv 5) pe_int) pa_nil)) (pv 1))))))))))))), pickA_rd (K := K) h⟩
theorem ok__law_draw_spans (T : Bt mg) (F__law_pick : FnD P w K mg base 1 "_law_pick" f__law_pick) {f : Addr} {fd : FuncData} (F : Fun K "_law_draw_spans" "_law_draw_spans" s__law_draw_spans f fd) (hm : mg "_law_draw_spans" = some (.ref f)) (hb : Binds K fd ["source", "many", "far", "most"] []) : FnD P w K mg base 2 "_law_draw_spans" f__law_draw_spans :=
  fnd_mk F (fn_body (N := N__law_draw_spans) F sc__law_draw_spans fun cdv A outer s H E hr hG =>
  (sd_cons (sown 4 sc__law_draw_spans.nd (pf_lst pad_nil))
  (sd_cons (sfor (vs := [5]) (pid_r1 (fun _ => rfl) (fun _ => T.z_range) (pab_cons (PD.br (pcall F__law_pick (fun _ => hr.mono (by decide)) (fun _ => hG) (pad_cons (pdv 0) (pad_cons (pd_op (fun _ => op_addA (K := K) rfl) os_add (pbv 1) (PD.br pd_int)) pad_nil)))) pab_nil)) (pgn 5 (fun _ => sc__law_draw_spans.nd)) (sd_cons (sset 6 sc__law_draw_spans.nd (pcall F__law_pick (fun _ => hr.mono (by decide)) (fun _ => hG) (pad_cons (pdv 0) (pad_cons (pdv 2) pad_nil))))
  (sd_one (sapp 4 (pd_tup (pad_cons (pdv 6) (pad_cons (pd_op (fun _ => op_addA (K := K) rfl) os_add (PD.br (pd_op (fun _ => op_addA (K := K) rfl) os_add (pbv 6) (PD.br pd_int))) (PD.br (pcall F__law_pick (fun _ => hr.mono (by decide)) (fun _ => hG) (pad_cons (pdv 0) (pad_cons (pdv 3) pad_nil))))) pad_nil)))))))
  (sd_cons (sset 7 sc__law_draw_spans.nd (PF.d (pf_callB (fun _ => call_sortA (K := K) rfl) cf_sort (fun _ => rfl) (fun _ => T.z_sorted) (by decide +kernel) (pab_cons (PF.br (plc [("a", 6), ("b", 8)] (fun _ => sc__law_draw_spans.nd) (fun _ => (blkOk_by (N := N__law_draw_spans) (sc := defScope s__law_draw_spans) (by decide +kernel))) (pib_seq (K := K) (fun _ => rfl) (pbv 4)) (pgt 2 (pgc (pgn 6 (fun _ => sc__law_draw_spans.nd)) (pgc (pgn 8 (fun _ => sc__law_draw_spans.nd)) pgsd_nil))) ptsd_nil (pdv 6))) pab_nil))))
  (sd_one (sd_ret (pd_callT (fun _ => call_tupA (K := K) rfl) cs_tuple (fun _ => rfl) (fun _ => T.z_tuple) (by decide +kernel) (pab_cons (PF.br (plc [("a", 6), ("early", 9), ("late", 10)] (fun _ => sc__law_draw_spans.nd) (fun _ => (blkOk_by (N := N__law_draw_spans) (sc := defScope s__law_draw_spans) (by decide +kernel))) (pib_zipX (K := K) (fun _ => rfl) (fun _ => rfl) (fun _ => T.z_zip) (pab_cons (pbv 7) (pab_cons (pbv 4) pab_nil))) (pgt 2 (pgc (pgn 6 (fun _ => sc__law_draw_spans.nd)) (pgc (pgt 2 (pgc (pgn 9 (fun _ => sc__law_draw_spans.nd)) (pgc (pgn 10 (fun _ => sc__law_draw_spans.nd)) pgsd_nil))) pgsd_nil))) ptsd_nil (pd_tup (pad_cons (pdv 6) (pad_cons (pd_op (fun _ => op_sub) os_sub (PD.br (pd_op (fun _ => op_addA (K := K) rfl) os_add (pbv 6) (pbv 10))) (pbv 9)) pad_nil))))) pab_nil)))))))) hm hb
theorem ok__law_at_once (T : Bt mg) {f : Addr} {fd : FuncData} (F : Fun K "_law_at_once" "_law_at_once" s__law_at_once f fd) (hm : mg "_law_at_once" = some (.ref f)) (hb : Binds K fd ["spans"] []) : FnD P w K mg base 1 "_law_at_once" f__law_at_once :=
  fnd_mk F (fn_body (N := N__law_at_once) F sc__law_at_once fun cdv A outer s H E hr hG =>
  (sd_one (sd_ret (pd_callB (fun _ => call_maxB (K := K) rfl rfl hr) cs_maxB (fun _ => rfl) (fun _ => T.z_max) (by decide +kernel) (pab_cons (PF.br (pf_cat (PF.br (pf_lst (pad_cons pd_int pad_nil))) (PF.br (plc [("place", 1)] (fun _ => sc__law_at_once.nd) (fun _ => (blkOk_by (N := N__law_at_once) (sc := defScope s__law_at_once) (by decide +kernel))) (pib_seq (K := K) (fun _ => rfl) (PF.br (plc [("a", 2), ("b", 3)] (fun _ => sc__law_at_once.nd) (fun _ => (blkOk_by (N := N__law_at_once) (sc := defScope s__law_at_once) (by decide +kernel))) (pib_seq (K := K) (fun _ => rfl) (pbv 0)) (pgt 2 (pgc (pgn 2 (fun _ => sc__law_at_once.nd)) (pgc (pgn 3 (fun _ => sc__law_at_once.nd)) pgsd_nil))) ptsd_nil (pdv 2)))) (pgn 1 (fun _ => sc__law_at_once.nd)) ptsd_nil (pd_callB (fun _ => call_lenA (K := K) rfl) cs_len (fun _ => rfl) (fun _ => T.z_len) (by decide +kernel) (pab_cons (PF.br (plc [("a", 2), ("b", 3)] (fun _ => sc__law_at_once.nd) (ok_nest (N := N__law_at_once) (fun _ => rfl) (by decide +kernel)) (pib_seq (K := K) (fun _ => rfl) (pbv 0)) (pgt 2 (pgc (pgn 2 (fun _ => sc__law_at_once.nd)) (pgc (pgn 3 (fun _ => sc__law_at_once.nd)) pgsd_nil))) (ptsd_one (ptd_chain (fun _ => op_leB (K := K) rfl hr) (fun _ => op_ltB (K := K) rfl hr) os_leB os_ltB (pbv 2) (pbv 1) (pbv 3) (by with_unfolding_all rfl))) pd_int)) pab_nil)))))) pab_nil))))) hm hb
theorem ok_law (T : Bt mg) {fo : Addr} {fdo : FuncData} (FO : FnG P w K mg base 1 fo fdo ["script"] (spOpen K)) (mO : mg "_law_open_cells" = some (.ref fo)) (kO : PySem.W.keepIn K (.ref fo) = true) (bO : Binds K fdo ["script"] []) (F_is_span_row : FnD P w K mg base 2 "is_span_row" f_is_span_row) (F_at_once : FnD P w K mg base 1 "at_once" f_at_once) (F_rooms_as_they_come : FnD P w K mg base 1 "rooms_as_they_come" f_rooms_as_they_come) (F_does_fit : FnD P w K mg base 2 "does_fit" f_does_fit) (F__law_pick : FnD P w K mg base 1 "_law_pick" f__law_pick) (F__law_draw_spans : FnD P w K mg base 2 "_law_draw_spans" f__law_draw_spans) (F__law_at_once : FnD P w K mg base 1 "_law_at_once" f__law_at_once) {f : Addr} {fd : FuncData} (F : Fun K "law" "law" s_law f fd) (hl : Law 17 1 b_law) : FnG P w K mg base 3 f fd ["script"] (spLaw K) :=
  law_body (N := N_law) (j := 1) F sc_law rfl (FnG.up FO (by decide)) mO kO bO rfl rfl (by decide) (by first | exact Or.inl rfl | exact Or.inr (Or.inl rfl)) (by first | exact Or.inl rfl | exact Or.inr rfl) (fun _ _ => rfl) (by decide) (by decide) (by decide) (fun _ => rfl) (fun cdv A outer s H E hr hG =>
  (sd_cons (sfor (vs := [2]) (pid_r1 (fun _ => rfl) (fun _ => T.z_range) (pab_cons (PD.br pd_int) pab_nil)) (pgn 2 (fun _ => sc_law.nd)) (sd_cons (sset 3 sc_law.nd (pcall F__law_draw_spans (fun _ => hr.mono (by decide)) (fun _ => hG) (pad_cons (pdv 1) (pad_cons pd_int (pad_cons (pd_ix (fun _ => rfl) (PF.br (pf_lst (pad_cons pd_int (pad_cons pd_int (pad_cons pd_int pad_nil))))) (pbv 2) (fun _ _ => rfl)) (pad_cons (pd_ix (fun _ => rfl) (PF.br (pf_lst (pad_cons pd_int (pad_cons pd_int (pad_cons pd_int pad_nil))))) (pbv 2) (fun _ _ => rfl)) pad_nil))))))
  (sd_cons (sset 4 sc_law.nd (pcall F__law_at_once (fun _ => hr.mono (by decide)) (fun _ => hG) (pad_cons (pdv 3) pad_nil)))
  (sd_cons (sd_if (PWd.t (pwd_or (ptd_cmp (fun _ => op_isNotA) os_isNot (PD.br (pcall F_is_span_row (fun _ => hr.mono (by decide)) (fun _ => hG) (pad_cons (pdv 3) pad_nil))) (PD.br pd_bl) (nomark _)) (pwd_or1 (ptd_cmp (fun _ => op_neA (K := K) rfl hr) os_ne (PD.br (pcall F_at_once (fun _ => hr.mono (by decide)) (fun _ => hG) (pad_cons (pdv 3) pad_nil))) (pbv 4) (nomark _))))) (sd_one (sd_ret pd_bl)) sd_nil)
  (sd_cons (spxc2 5 6 sc_law.nd (PD.x (pcall F_rooms_as_they_come (fun _ => hr.mono (by decide)) (fun _ => hG) (pad_cons (pdv 3) pad_nil))) (PF.x (pf_lst pad_nil)))
  (sd_cons (sfor (vs := [7, 8, 9]) (pid_enumB (K := K) (fun _ => rfl) (fun _ => rfl) (fun _ => T.z_enumerate) (pad_cons (pdv 3) pad_nil)) (pgt 2 (pgc (pgn 7 (fun _ => sc_law.nd)) (pgc (pgt 2 (pgc (pgn 8 (fun _ => sc_law.nd)) (pgc (pgn 9 (fun _ => sc_law.nd)) pgsd_nil))) pgsd_nil))) (sd_cons (sset 10 sc_law.nd (PF.d (plc [("j", 14)] (fun _ => sc_law.nd) (fun _ => (blkOk_by (N := N_law) (sc := defScope s_law) (by decide +kernel))) (PId.br (pid_r1 (fun _ => rfl) (fun _ => T.z_range) (pab_cons (pbv 7) pab_nil))) (pgn 14 (fun _ => sc_law.nd)) (ptsd_one (ptd_cmp (fun _ => op_gtB (K := K) rfl hr) os_gtB (PD.br (pd_ix (fun _ => rfl) (PD.br (pd_ix (fun _ => rfl) (pbv 3) (pbv 14) (fun _ _ => rfl))) (PD.br pd_int) (fun _ _ => rfl))) (pbv 8) (nomark _))) (pd_ix (fun _ => rfl) (pbv 6) (pbv 14) (fun _ _ => rfl)))))
  (sd_one (sapp 6 (pd_ix (fun _ => rfl) (PF.br (plc [("room", 16)] (fun _ => sc_law.nd) (fun _ => (blkOk_by (N := N_law) (sc := defScope s_law) (by decide +kernel))) (PId.br (pid_r1 (fun _ => rfl) (fun _ => T.z_range) (pab_cons (PD.br (pd_callB (fun _ => call_lenA (K := K) rfl) cs_len (fun _ => rfl) (fun _ => T.z_len) (by decide +kernel) (pab_cons (pbv 3) pab_nil))) pab_nil))) (pgn 16 (fun _ => sc_law.nd)) (ptsd_one (ptd_cmp (fun _ => op_notInA (K := K) rfl hr) os_notIn (pbv 16) (pbv 10) (by with_unfolding_all rfl))) (pdv 16))) (PD.br pd_int) (fun _ _ => rfl))))))
  (sd_cons (sd_if (PWd.t (pwd_or (ptd_cmp (fun _ => op_neA (K := K) rfl hr) os_ne (PD.br (pd_callB (fun _ => call_reprE (K := K) rfl hr hG) cs_reprE (fun _ => rfl) (fun _ => T.z_repr) (by decide +kernel) (pab_cons (pbv 5) pab_nil))) (PD.br (pd_callB (fun _ => call_reprE (K := K) rfl hr hG) cs_reprE (fun _ => rfl) (fun _ => T.z_repr) (by decide +kernel) (pab_cons (PD.br (pd_callT (fun _ => call_tupA (K := K) rfl) cs_tuple (fun _ => rfl) (fun _ => T.z_tuple) (by decide +kernel) (pab_cons (pbv 6) pab_nil))) pab_nil))) (nomark _)) (pwd_or1 (ptd_cmp (fun _ => op_neA (K := K) rfl hr) os_ne (PD.br (pd_callB (fun _ => call_lenE (K := K) rfl) cs_lenD (fun _ => rfl) (fun _ => T.z_len) (by decide +kernel) (pab_cons (PD.br (pd_callT (fun _ => call_dictA (K := K) rfl rfl) cs_dict (fun _ => rfl) (fun _ => T.z_dict) (by decide +kernel) (pab_cons (PF.br (plc [("room", 16)] (fun _ => sc_law.nd) (fun _ => (blkOk_by (N := N_law) (sc := defScope s_law) (by decide +kernel))) (pib_seq (K := K) (fun _ => rfl) (pbv 5)) (pgn 16 (fun _ => sc_law.nd)) ptsd_nil (pd_tup (pad_cons (pdv 16) (pad_cons pd_int pad_nil))))) pab_nil))) pab_nil))) (pbv 4) (nomark _))))) (sd_one (sd_ret pd_bl)) sd_nil)
  (sd_cons (sfor (vs := [7]) (pid_r1 (fun _ => rfl) (fun _ => T.z_range) (pab_cons (PD.br (pd_callB (fun _ => call_lenA (K := K) rfl) cs_len (fun _ => rfl) (fun _ => T.z_len) (by decide +kernel) (pab_cons (pbv 3) pab_nil))) pab_nil)) (pgn 7 (fun _ => sc_law.nd)) (sd_one (sd_if (ptd_val (pd_callB (fun _ => call_anyA (K := K) rfl rfl) cs_any (fun _ => rfl) (fun _ => T.z_any) (by decide +kernel) (pab_cons (PF.br (plc [("j", 14)] (fun _ => sc_law.nd) (fun _ => (blkOk_by (N := N_law) (sc := defScope s_law) (by decide +kernel))) (PId.br (pid_r1 (fun _ => rfl) (fun _ => T.z_range) (pab_cons (pbv 7) pab_nil))) (pgn 14 (fun _ => sc_law.nd)) ptsd_nil (pd_and (pd_cmp (fun _ => op_eqA (K := K) rfl hr) os_eq (PD.br (pd_ix (fun _ => rfl) (pbv 5) (pbv 14) (fun _ _ => rfl))) (PD.br (pd_ix (fun _ => rfl) (pbv 5) (pbv 7) (fun _ _ => rfl))) (nomark _)) (pd_one (pd_cmp (fun _ => op_gtB (K := K) rfl hr) os_gtB (PD.br (pd_ix (fun _ => rfl) (PD.br (pd_ix (fun _ => rfl) (pbv 3) (pbv 14) (fun _ _ => rfl))) (PD.br pd_int) (fun _ _ => rfl))) (PD.br (pd_ix (fun _ => rfl) (PD.br (pd_ix (fun _ => rfl) (pbv 3) (pbv 7) (fun _ _ => rfl))) (PD.br pd_int) (fun _ _ => rfl))) (nomark _)))))) pab_nil)) (fun _ _ => rfl)) (sd_one (sd_ret pd_bl)) sd_nil)))
  (sd_cons (sset 11 sc_law.nd (pd_callT (fun _ => call_tupA (K := K) rfl) cs_tuple (fun _ => rfl) (fun _ => T.z_tuple) (by decide +kernel) (pab_cons (PF.br (plc [("i", 7)] (fun _ => sc_law.nd) (fun _ => (blkOk_by (N := N_law) (sc := defScope s_law) (by decide +kernel))) (PId.br (pid_r1 (fun _ => rfl) (fun _ => T.z_range) (pab_cons (PD.br (pd_callB (fun _ => call_lenA (K := K) rfl) cs_len (fun _ => rfl) (fun _ => T.z_len) (by decide +kernel) (pab_cons (pbv 3) pab_nil))) pab_nil))) (pgn 7 (fun _ => sc_law.nd)) (ptsd_one (ptd_cmp (fun _ => op_gtB (K := K) rfl hr) os_gtB (PD.br (pcall F__law_pick (fun _ => hr.mono (by decide)) (fun _ => hG) (pad_cons (pdv 1) (pad_cons pd_int pad_nil)))) (PD.br pd_int) (nomark _))) (pdv 7))) pab_nil)))
  (sd_cons (sfor (vs := [12]) (pid_r1 (fun _ => rfl) (fun _ => T.z_range) (pab_cons (PD.br pd_int) pab_nil)) (pgn 12 (fun _ => sc_law.nd)) (sd_one (sd_if (ptd_cmp (fun _ => op_neA (K := K) rfl hr) os_ne (PD.br (pd_callB (fun _ => call_reprE (K := K) rfl hr hG) cs_reprE (fun _ => rfl) (fun _ => T.z_repr) (by decide +kernel) (pab_cons (PD.br (pcall F_does_fit (fun _ => hr.mono (by decide)) (fun _ => hG) (pad_cons (pdv 3) (pad_cons (pdv 11) (pad_cons (pdv 12) pad_nil))))) pab_nil))) (PD.br (pd_callB (fun _ => call_reprE (K := K) rfl hr hG) cs_reprE (fun _ => rfl) (fun _ => T.z_repr) (by decide +kernel) (pab_cons (PD.br (pd_cmp (fun _ => op_leB (K := K) rfl hr) os_leB (PD.br (pcall F__law_at_once (fun _ => hr.mono (by decide)) (fun _ => hG) (pad_cons (PF.d (plc [("i", 7)] (fun _ => sc_law.nd) (fun _ => (blkOk_by (N := N_law) (sc := defScope s_law) (by decide +kernel))) (pib_seq (K := K) (fun _ => rfl) (pbv 11)) (pgn 7 (fun _ => sc_law.nd)) ptsd_nil (pd_ix (fun _ => rfl) (pbv 3) (pbv 7) (fun _ _ => rfl)))) pad_nil))) (pbv 12) (nomark _))) pab_nil))) (nomark _)) (sd_one (sd_ret pd_bl)) sd_nil)))
  (sd_one (sd_if (PWd.t (pwd_and (ptd_cmp (fun _ => op_neZ (K := K) rfl hr) os_neZ (pbv 3) (PD.br (pd_tup pad_nil)) (nomark _)) (pwd_and (ptd_cmp (fun _ => op_ltB (K := K) rfl hr) os_ltB (PD.br (pd_ix (fun _ => rfl) (PD.br (pd_ix (fun _ => rfl) (pbv 3) (PD.br pd_int) (fun _ _ => rfl))) (PD.br pd_int) (fun _ _ => rfl))) (PD.br (pd_ix (fun _ => rfl) (PD.br (pd_ix (fun _ => rfl) (pbv 3) (PD.br (pd_un (fun _ => un_neg) us_neg (PD.br pd_int))) (fun _ _ => rfl))) (PD.br pd_int) (fun _ _ => rfl))) (nomark _)) (pwd_and1 (ptd_cmp (fun _ => op_isNotA) os_isNot (PD.br (pcall F_is_span_row (fun _ => hr.mono (by decide)) (fun _ => hG) (pad_cons (pd_revB (fun _ => rfl) (pbv 3)) pad_nil))) (PD.br pd_bl) (nomark _)))))) (sd_one (sd_ret pd_bl)) sd_nil))))))))))))
  (sd_cons (sset 13 sc_law.nd (PF.d (pf_lst (pad_cons pd_non (pad_cons pd_int (pad_cons (PF.d (pf_lst (pad_cons (pd_tup (pad_cons pd_int (pad_cons pd_int pad_nil))) pad_nil))) (pad_cons (pd_tup (pad_cons (pd_tup (pad_cons pd_int (pad_cons pd_int pad_nil))) pad_nil)) (pad_cons (pd_tup (pad_cons (pd_tup (pad_cons pd_int (pad_cons pd_int pad_nil))) pad_nil)) (pad_cons (pd_tup (pad_cons (pd_tup (pad_cons pd_int (pad_cons pd_bl pad_nil))) pad_nil)) (pad_cons (pd_tup (pad_cons (pd_tup (pad_cons pd_int pad_nil)) pad_nil)) (pad_cons (pd_tup (pad_cons (pd_tup (pad_cons pd_int (pad_cons pd_int (pad_cons pd_int pad_nil)))) pad_nil)) (pad_cons (pd_tup (pad_cons pd_non pad_nil)) (pad_cons (pd_tup (pad_cons pd_str pad_nil)) pad_nil)))))))))))))
  (sd_cons (sset 13 sc_law.nd (PF.d (pf_cat (pbv 13) (PF.br (pf_lst (pad_cons (pd_tup (pad_cons (pd_tup (pad_cons pd_int (pad_cons pd_int pad_nil))) (pad_cons (pd_tup (pad_cons pd_int (pad_cons pd_int pad_nil))) pad_nil))) (pad_cons (pd_tup (pad_cons (PF.d (pf_lst (pad_cons pd_int (pad_cons pd_int pad_nil)))) pad_nil)) pad_nil)))))))
  (sd_one (sd_ret (pd_and (pd_not (pd_callB (fun _ => call_anyA (K := K) rfl rfl) cs_any (fun _ => rfl) (fun _ => T.z_any) (by decide +kernel) (pab_cons (PF.br (plc [("value", 15)] (fun _ => sc_law.nd) (fun _ => (blkOk_by (N := N_law) (sc := defScope s_law) (by decide +kernel))) (pib_seq (K := K) (fun _ => rfl) (pbv 13)) (pgn 15 (fun _ => sc_law.nd)) ptsd_nil (pcall F_is_span_row (fun _ => hr.mono (by decide)) (fun _ => hG) (pad_cons (pdv 15) pad_nil)))) pab_nil))) (pd_one (pd_cmp (fun _ => op_isA) os_is (PD.br (pcall F_is_span_row (fun _ => hr.mono (by decide)) (fun _ => hG) (pad_cons (pd_tup pad_nil) pad_nil))) (PD.br pd_bl) (nomark _)))))))))) hl
end
theorem all_mk {l : PySem.W.OpenLaw} {w : World} {K : Frg} {h : Heap} {mg : Str → Option Value} {fa f0 f1 f2 f3 f4 f5 f6 f7 f8 f9 : Addr} (X : K.In h) (G : h.Ns mainGlobals mg) (hfa : mg "law" = some (.ref fa))
    {od0 od1 od2 od3 od4 od5 od6 od7 od8 od9 an0 an1 an2 an3 an4 an5 an6 an7 an8 an9 : Option Addr} {sl0 sl1 sl2 sl3 sl4 sl5 sl6 sl7 sl8 sl9 : Array (Option Value)} {oc0 oc1 oc2 oc3 oc4 oc5 oc6 oc7 oc8 oc9 kV0 kV1 kV2 kV3 kV4 kV5 kV6 kV7 kV8 kV9 dc0 dc1 dc2 dc3 dc4 dc5 dc6 dc7 dc8 dc9 pm0 pm1 pm2 pm3 pm4 pm5 pm6 pm7 pm8 pm9 cd0 cd1 cd2 cd3 cd4 cd5 cd6 cd7 cd8 cd9 ct0 ct1 ct2 ct3 ct4 ct5 ct6 ct7 ct8 ct9 : Value}
    (a0 : PySem.W.nsIn K mainGlobals "is_span_pair" = some (some (.ref f0))) (l0 : K.lookup f0 = some ⟨oc0, od0, .func (PySem.W.fnOf "is_span_pair" "is_span_pair" (defArgs s_is_span_pair) (defBody s_is_span_pair) (defScope s_is_span_pair) .none kV0 dc0 pm0 an0 cd0 ct0), sl0⟩) (c0 : PySem.W.codeIn K cd0 "is_span_pair" = true) (k0 : PySem.W.keepIn K (.ref f0) = true)
    (a1 : PySem.W.nsIn K mainGlobals "is_span_row" = some (some (.ref f1))) (l1 : K.lookup f1 = some ⟨oc1, od1, .func (PySem.W.fnOf "is_span_row" "is_span_row" (defArgs s_is_span_row) (defBody s_is_span_row) (defScope s_is_span_row) .none kV1 dc1 pm1 an1 cd1 ct1), sl1⟩) (c1 : PySem.W.codeIn K cd1 "is_span_row" = true) (k1 : PySem.W.keepIn K (.ref f1) = true)
    (a2 : PySem.W.nsIn K mainGlobals "at_once" = some (some (.ref f2))) (l2 : K.lookup f2 = some ⟨oc2, od2, .func (PySem.W.fnOf "at_once" "at_once" (defArgs s_at_once) (defBody s_at_once) (defScope s_at_once) .none kV2 dc2 pm2 an2 cd2 ct2), sl2⟩) (c2 : PySem.W.codeIn K cd2 "at_once" = true) (k2 : PySem.W.keepIn K (.ref f2) = true)
    (a3 : PySem.W.nsIn K mainGlobals "rooms_as_they_come" = some (some (.ref f3))) (l3 : K.lookup f3 = some ⟨oc3, od3, .func (PySem.W.fnOf "rooms_as_they_come" "rooms_as_they_come" (defArgs s_rooms_as_they_come) (defBody s_rooms_as_they_come) (defScope s_rooms_as_they_come) .none kV3 dc3 pm3 an3 cd3 ct3), sl3⟩) (c3 : PySem.W.codeIn K cd3 "rooms_as_they_come" = true) (k3 : PySem.W.keepIn K (.ref f3) = true)
    (a4 : PySem.W.nsIn K mainGlobals "does_fit" = some (some (.ref f4))) (l4 : K.lookup f4 = some ⟨oc4, od4, .func (PySem.W.fnOf "does_fit" "does_fit" (defArgs s_does_fit) (defBody s_does_fit) (defScope s_does_fit) .none kV4 dc4 pm4 an4 cd4 ct4), sl4⟩) (c4 : PySem.W.codeIn K cd4 "does_fit" = true) (k4 : PySem.W.keepIn K (.ref f4) = true)
    (a5 : PySem.W.nsIn K mainGlobals "_law_open_cells" = some (some (.ref f5))) (l5 : K.lookup f5 = some ⟨oc5, od5, .func (PySem.W.fnOf "_law_open_cells" "_law_open_cells" (defArgs s__law_open_cells) (defBody s__law_open_cells) (defScope s__law_open_cells) .none kV5 dc5 pm5 an5 cd5 ct5), sl5⟩) (c5 : PySem.W.codeIn K cd5 "_law_open_cells" = true) (k5 : PySem.W.keepIn K (.ref f5) = true)
    (a6 : PySem.W.nsIn K mainGlobals "_law_pick" = some (some (.ref f6))) (l6 : K.lookup f6 = some ⟨oc6, od6, .func (PySem.W.fnOf "_law_pick" "_law_pick" (defArgs s__law_pick) (defBody s__law_pick) (defScope s__law_pick) .none kV6 dc6 pm6 an6 cd6 ct6), sl6⟩) (c6 : PySem.W.codeIn K cd6 "_law_pick" = true) (k6 : PySem.W.keepIn K (.ref f6) = true)
    (a7 : PySem.W.nsIn K mainGlobals "_law_draw_spans" = some (some (.ref f7))) (l7 : K.lookup f7 = some ⟨oc7, od7, .func (PySem.W.fnOf "_law_draw_spans" "_law_draw_spans" (defArgs s__law_draw_spans) (defBody s__law_draw_spans) (defScope s__law_draw_spans) .none kV7 dc7 pm7 an7 cd7 ct7), sl7⟩) (c7 : PySem.W.codeIn K cd7 "_law_draw_spans" = true) (k7 : PySem.W.keepIn K (.ref f7) = true)
    (a8 : PySem.W.nsIn K mainGlobals "_law_at_once" = some (some (.ref f8))) (l8 : K.lookup f8 = some ⟨oc8, od8, .func (PySem.W.fnOf "_law_at_once" "_law_at_once" (defArgs s__law_at_once) (defBody s__law_at_once) (defScope s__law_at_once) .none kV8 dc8 pm8 an8 cd8 ct8), sl8⟩) (c8 : PySem.W.codeIn K cd8 "_law_at_once" = true) (k8 : PySem.W.keepIn K (.ref f8) = true)
    (a9 : PySem.W.nsIn K mainGlobals "law" = some (some (.ref f9))) (l9 : K.lookup f9 = some ⟨oc9, od9, .func (PySem.W.fnOf "law" "law" (defArgs s_law) (defBody s_law) (defScope s_law) .none kV9 dc9 pm9 an9 cd9 ct9), sl9⟩) (c9 : PySem.W.codeIn K cd9 "law" = true) (k9 : PySem.W.keepIn K (.ref f9) = true)
    (z0 : PySem.W.nsIn K mainGlobals "abs" = some none) (z1 : PySem.W.nsIn K mainGlobals "all" = some none) (z2 : PySem.W.nsIn K mainGlobals "any" = some none) (z3 : PySem.W.nsIn K mainGlobals "bool" = some none) (z4 : PySem.W.nsIn K mainGlobals "dict" = some none) (z5 : PySem.W.nsIn K mainGlobals "enumerate" = some none) (z6 : PySem.W.nsIn K mainGlobals "int" = some none) (z7 : PySem.W.nsIn K mainGlobals "isinstance" = some none) (z8 : PySem.W.nsIn K mainGlobals "len" = some none) (z9 : PySem.W.nsIn K mainGlobals "max" = some none) (z10 : PySem.W.nsIn K mainGlobals "range" = some none) (z11 : PySem.W.nsIn K mainGlobals "repr" = some none) (z12 : PySem.W.nsIn K mainGlobals "sorted" = some none) (z13 : PySem.W.nsIn K mainGlobals "tuple" = some none) (z14 : PySem.W.nsIn K mainGlobals "zip" = some none) 
    (hl : Law 17 1 b_law) :
    ∃ fd : FuncData, (∀ (s : Shared) (v : Value), BindsTo s fd ⟨[v], []⟩ [("script", v)]) ∧ ∀ base : Heap, K.In base → base.Ns mainGlobals mg → FnG l.prog w K mg base 3 fa fd ["script"] (spLaw K) := by
  have e := hfa.symm.trans (PySem.W.mg_of X G a9)
  cases e
  have T : Bt mg := ⟨PySem.W.mg_none_of X G z0, PySem.W.mg_none_of X G z1, PySem.W.mg_none_of X G z2, PySem.W.mg_none_of X G z3, PySem.W.mg_none_of X G z4, PySem.W.mg_none_of X G z5, PySem.W.mg_none_of X G z6, PySem.W.mg_none_of X G z7, PySem.W.mg_none_of X G z8, PySem.W.mg_none_of X G z9, PySem.W.mg_none_of X G z10, PySem.W.mg_none_of X G z11, PySem.W.mg_none_of X G z12, PySem.W.mg_none_of X G z13, PySem.W.mg_none_of X G z14⟩
  have E0 := fun_mk (st := s_is_span_pair) l0 c0 k0
  have b0 := E0.binds (ps := ["value"]) fun _ _ _ _ _ _ us hl => match us, hl with | [_], _ => rfl
  have E1 := fun_mk (st := s_is_span_row) l1 c1 k1
  have b1 := E1.binds (ps := ["value"]) fun _ _ _ _ _ _ us hl => match us, hl with | [_], _ => rfl
  have E2 := fun_mk (st := s_at_once) l2 c2 k2
  have b2 := E2.binds (ps := ["spans"]) fun _ _ _ _ _ _ us hl => match us, hl with | [_], _ => rfl
  have E3 := fun_mk (st := s_rooms_as_they_come) l3 c3 k3
  have b3 := E3.binds (ps := ["spans"]) fun _ _ _ _ _ _ us hl => match us, hl with | [_], _ => rfl
  have E4 := fun_mk (st := s_does_fit) l4 c4 k4
  have b4 := E4.binds (ps := ["spans", "lot", "k"]) fun _ _ _ _ _ _ us hl => match us, hl with | [_, _, _], _ => rfl
  have E5 := fun_mk (st := s__law_open_cells) l5 c5 k5
  have b5 := E5.binds (ps := ["script"]) fun _ _ _ _ _ _ us hl => match us, hl with | [_], _ => rfl
  have E6 := fun_mk (st := s__law_pick) l6 c6 k6
  have b6 := E6.binds (ps := ["source", "most"]) fun _ _ _ _ _ _ us hl => match us, hl with | [_, _], _ => rfl
  have E7 := fun_mk (st := s__law_draw_spans) l7 c7 k7
  have b7 := E7.binds (ps := ["source", "many", "far", "most"]) fun _ _ _ _ _ _ us hl => match us, hl with | [_, _, _, _], _ => rfl
  have E8 := fun_mk (st := s__law_at_once) l8 c8 k8
  have b8 := E8.binds (ps := ["spans"]) fun _ _ _ _ _ _ us hl => match us, hl with | [_], _ => rfl
  have E9 := fun_mk (st := s_law) l9 c9 k9
  refine ⟨PySem.W.fnOf "law" "law" (defArgs s_law) (defBody s_law) (defScope s_law) .none kV9 dc9 pm9 an9 cd9 ct9, fun s v => .of_eq rfl, fun base _ _ => ?_⟩
  have F_is_span_pair := ok_is_span_pair (P := l.prog) (w := w) (base := base) T  E0 (PySem.W.mg_of X G a0) b0
  have F_is_span_row := ok_is_span_row (P := l.prog) (w := w) (base := base) T F_is_span_pair E1 (PySem.W.mg_of X G a1) b1
  have F_at_once := ok_at_once (P := l.prog) (w := w) (base := base) T  E2 (PySem.W.mg_of X G a2) b2
  have F_rooms_as_they_come := ok_rooms_as_they_come (P := l.prog) (w := w) (base := base) T  E3 (PySem.W.mg_of X G a3) b3
  have F_does_fit := ok_does_fit (P := l.prog) (w := w) (base := base) T F_at_once E4 (PySem.W.mg_of X G a4) b4
  have Q5 := ok__law_open_cells (P := l.prog) (w := w) (base := base) T E5
  have F__law_pick : FnD l.prog w K mg base 1 "_law_pick" f__law_pick := fnd_mk E6 (pick_of (ok__law_pick T E6)) (PySem.W.mg_of X G a6) b6
  have F__law_draw_spans := ok__law_draw_spans (P := l.prog) (w := w) (base := base) T F__law_pick E7 (PySem.W.mg_of X G a7) b7
  have F__law_at_once := ok__law_at_once (P := l.prog) (w := w) (base := base) T  E8 (PySem.W.mg_of X G a8) b8
  exact ok_law T Q5 (PySem.W.mg_of X G a5) E5.kp b5 F_is_span_row F_at_once F_rooms_as_they_come F_does_fit F__law_pick F__law_draw_spans F__law_at_once E9 hl
end LW

set_option Elab.async false
set_option linter.all false
set_option maxRecDepth 100000
set_option exponentiation.threshold 1000
namespace LW
open PySem DL
/-! ### spans -/
def fr (x : Int × Int) : D := .tup [.int x.1, .int x.2]
structure Spans (sp : List (Int × Int)) : Prop where
  lo : ∀ x ∈ sp, 0 ≤ x.1
  ne : ∀ x ∈ sp, x.1 < x.2
  hi : ∀ x ∈ sp, x.2 ≤ 1000
  up : sp.Pairwise fun a b => a.1 ≤ b.1
theorem fr_get {xs : List (Int × Int)} {i : Nat} {x : D} (h : (xs.map fr)[i]? = some x) : i < xs.length ∧ x = fr (xs.getD i (0, 0)) := by
  rw [List.getElem?_map] at h
  have hi : i < xs.length := by
    rcases Nat.lt_or_ge i xs.length with hh | hh
    · exact hh
    · rw [List.getElem?_eq_none hh] at h
      cases h
  rw [List.getElem?_eq_getElem hi] at h
  cases h
  refine ⟨hi, ?_⟩
  rw [List.getD_eq_getElem?_getD, List.getElem?_eq_getElem hi]
  rfl
theorem map_getD {α β : Type} (f : α → β) (xs : List α) (d : α) : (List.range' 0 xs.length).map (fun i => f (xs.getD i d)) = xs.map f := by
  apply List.ext_getElem
  · simp
  · intro i h1 h2
    rw [List.length_map] at h2
    simp [List.getD_eq_getElem?_getD, h2]
theorem getD_mem {α : Type} {xs : List α} {i : Nat} {d : α} (h : i < xs.length) : xs.getD i d ∈ xs := by
  rw [List.getD_eq_getElem?_getD, List.getElem?_eq_getElem h]
  exact List.getElem_mem h
theorem sp_draw {many far most : Nat} {Q : D → Prop} (hm : many ≤ 40) (hf : far ≤ 100) (hm2 : most ≤ 100) (h : ∀ sp, Spans sp → sp.length ≤ many → Q (.tup (sp.map fr))) : f__law_draw_spans [.src, .int (many : Int), .int (far : Int), .int (most : Int)] Q := by
  have sl : (sizeLine : Nat) = 16777216 := rfl
  refine ⟨rfl, szk 0, ?_⟩
  refine ⟨Nat.lt_of_le_of_lt (Bd.log (k := 20) (by unfold Bd; omega)) (by decide), fun r r0 r1 => ?_⟩
  refine ⟨⟨by omega, by omega⟩, ?_⟩
  refine for_inv (fun i en => ∃ (rows : List (Int × Int)) (s5 s6 s7 s8 s9 s10 : DL.Slot), rows.length = i ∧ (∀ x ∈ rows, 0 ≤ x.1 ∧ x.1 < x.2 ∧ x.1 ≤ 100 ∧ x.2 ≤ 201) ∧ en = [.d .src, .d (.int (many : Int)), .d (.int (far : Int)), .d (.int (most : Int)), .own (rows.map fr), s5, s6, s7, s8, s9, s10]) _ 0 ⟨[], _, _, _, _, _, _, rfl, fun x hx => (List.not_mem_nil hx).elim, rfl⟩ (fun i x en hx hI N hN => ?_) fun en hI => ?_
  · obtain ⟨rows, s5, s6, s7, s8, s9, s10, hl, hr, rfl⟩ := hI
    rw [Nat.zero_add] at hN hl
    obtain ⟨hi, rfl⟩ := rng_get hx
    refine sqA ?_
    refine ⟨Nat.lt_of_le_of_lt (Bd.log (k := 20) (by unfold Bd; omega)) (by decide), fun a a0 a1 => ?_⟩
    refine ⟨Nat.lt_of_le_of_lt (Bd.log (k := 20) (by unfold Bd; omega)) (by decide), fun b b0 b1 => ?_⟩
    refine ⟨szk 2, by rw [List.length_map]; omega, hN _ ⟨rows ++ [(a, a + 1 + b)], .d (.int (0 + (i : Int))), .d (.int a), s7, s8, s9, s10, by rw [List.length_append, hl]; rfl, fun x hx => ?_, ?_⟩⟩
    · rcases List.mem_append.mp hx with hx | hx
      · exact hr x hx
      · rw [List.mem_singleton.mp hx]
        dsimp only
        omega
    · rw [List.map_append]
      rfl
  · obtain ⟨rows, s5, s6, s7, s8, s9, s10, hl, hr, rfl⟩ := hI
    rw [rng_len, Nat.zero_add] at hl
    refine nxB (b := b__law_draw_spans_2) ?_
    have hlen : rows.length ≤ many := by omega
    refine sqA ?_
    refine ⟨by rw [List.length_map]; omega, ?_⟩
    refine lc_map (fun i => .int (rows.getD i (0, 0)).1) _ 0 [] _ (fun i x hx Qy Qn q => ?_) ?_
    · obtain ⟨hi, rfl⟩ := fr_get hx
      rw [Nat.zero_add] at q
      exact gTi q
    · rw [List.length_map, map_getD (fun x : Int × Int => D.int x.1), List.nil_append]
      have e1 : rows.map (fun x : Int × Int => D.int x.1) = (rows.map (·.1)).map .int := by
        rw [List.map_map]
        rfl
      rw [e1]
      show (match ints? ((rows.map (·.1)).map .int) with | some ns => _ | none => False)
      rw [ints?_map]
      refine fun bs hp hs => ?_
      have bl : bs.length = rows.length := by
        rw [hp.length_eq, List.length_map]
      have ze : zipD (bs.map .int) (rows.map fr) = (List.range rows.length).map fun i => D.tup [.int (bs.getD i 0), fr (rows.getD i (0, 0))] := by
        unfold zipD
        apply List.ext_getElem
        · simp [bl]
        · intro i h1 h2
          rw [List.length_map, List.length_range] at h2
          simp [List.getD_eq_getElem?_getD, h2, bl]
      show (zipD (bs.map .int) (rows.map fr)).length ≤ sizeLine ∧ lcL _ _ _ _ (zipD (bs.map .int) (rows.map fr)) [] _
      rw [ze]
      refine ⟨by rw [List.length_map, List.length_range]; omega, ?_⟩
      refine lc_map (fun i => fr (bs.getD i 0, bs.getD i 0 + (rows.getD i (0, 0)).2 - (rows.getD i (0, 0)).1)) _ 0 [] _ (fun i x hx Qy Qn q => ?_) ?_
      · rw [List.getElem?_map] at hx
        have hi : i < rows.length := by
          rcases Nat.lt_or_ge i rows.length with hh | hh
          · exact hh
          · rw [List.getElem?_eq_none (by rw [List.length_range]; exact hh)] at hx
            cases hx
        rw [List.getElem?_range hi] at hx
        cases hx
        rw [Nat.zero_add] at q
        exact ⟨rfl, rfl, rfl, rfl, szk 2, q⟩
      · rw [List.length_map, List.length_range, List.nil_append]
        have e2 : (List.range' 0 rows.length).map (fun i => fr (bs.getD i 0, bs.getD i 0 + (rows.getD i (0, 0)).2 - (rows.getD i (0, 0)).1)) = ((List.range rows.length).map fun i => (bs.getD i 0, bs.getD i 0 + (rows.getD i (0, 0)).2 - (rows.getD i (0, 0)).1)).map fr := by
          rw [List.map_map, List.range_eq_range']
          rfl
        rw [e2]
        have mem : ∀ x ∈ (List.range rows.length).map (fun i => (bs.getD i 0, bs.getD i 0 + (rows.getD i (0, 0)).2 - (rows.getD i (0, 0)).1)), 0 ≤ x.1 ∧ x.1 < x.2 ∧ x.2 ≤ 1000 := fun x hx => by
          obtain ⟨i, hi, rfl⟩ := List.mem_map.mp hx
          have hi := List.mem_range.mp hi
          have h1 := hr _ (getD_mem (d := (0, 0)) hi)
          have h2 : bs.getD i 0 ∈ rows.map (·.1) := hp.mem_iff.mp (getD_mem (by omega))
          obtain ⟨y, hy, e⟩ := List.mem_map.mp h2
          have h3 := hr y hy
          dsimp only
          omega
        refine h _ ⟨fun x hx => (mem x hx).1, fun x hx => (mem x hx).2.1, fun x hx => (mem x hx).2.2, ?_⟩ (by rw [List.length_map, List.length_range]; exact hlen)
        rw [List.pairwise_map, List.pairwise_iff_getElem]
        intro i j hi hj hij
        rw [List.length_range] at hi hj
        rw [List.getElem_range, List.getElem_range]
        have := List.pairwise_iff_getElem.mp hs i j (by omega) (by omega) hij
        have gi : ∀ k, k < bs.length → bs.getD k 0 = bs[k]! := fun k hk => by
          rw [List.getD_eq_getElem?_getD, List.getElem?_eq_getElem hk, getElem!_pos bs k hk]
          rfl
        show bs.getD i 0 ≤ bs.getD j 0
        rw [gi i (by omega), gi j (by omega), getElem!_pos bs i (by omega), getElem!_pos bs j (by omega)]
        exact this
end LW

namespace LW
open PySem DL
def En' (sp : List (Int × Int)) (j : Nat) : Int := (sp.getD j (0, 0)).2
theorem sp_get {sp : List (Int × Int)} {j : Nat} (h : j < sp.length) : (sp.map fr)[j]? = some (fr (sp.getD j (0, 0))) := by
  rw [List.getElem?_map, List.getElem?_eq_getElem h, List.getD_eq_getElem?_getD, List.getElem?_eq_getElem h]
  rfl
/-! ### counting below n -/
def cnt (n : Nat) (p : Nat → Bool) : Nat := (List.range n).countP p
theorem cnt_succ (n : Nat) (p : Nat → Bool) : cnt (n + 1) p = cnt n p + if p n = true then 1 else 0 := by
  unfold cnt
  rw [List.range_succ, List.countP_append, List.countP_singleton]
theorem cnt_mono {n : Nat} {p q : Nat → Bool} (h : ∀ j, j < n → p j = true → q j = true) : cnt n p ≤ cnt n q :=
  List.countP_mono_left fun x hx => h x (List.mem_range.mp hx)
theorem cnt_congr {n : Nat} {p q : Nat → Bool} (h : ∀ j, j < n → p j = q j) : cnt n p = cnt n q :=
  Nat.le_antisymm (cnt_mono fun j hj e => by rw [← h j hj]; exact e) (cnt_mono fun j hj e => by rw [h j hj]; exact e)
theorem cnt_split {n : Nat} (p q : Nat → Bool) : cnt n p = cnt n (fun j => p j && q j) + cnt n (fun j => p j && !q j) := by
  induction n with
  | zero => rfl
  | succ n ih =>
    rw [cnt_succ, cnt_succ, cnt_succ, ih]
    cases p n <;> cases q n <;> simp <;> omega
theorem cnt_one (n x : Nat) : cnt n (fun j => decide (j = x)) ≤ 1 := by
  have : ∀ n, cnt n (fun j => decide (j = x)) ≤ if x < n then 1 else 0 := by
    intro n
    induction n with
    | zero => exact Nat.le_refl _
    | succ n ih =>
      rw [cnt_succ]
      by_cases h : n = x
      · rw [if_pos (decide_eq_true h), if_pos (by omega)]
        rw [if_neg (by omega)] at ih
        omega
      · rw [if_neg (by simp; exact h)]
        by_cases h2 : x < n
        · rw [if_pos h2] at ih
          rw [if_pos (by omega)]
          omega
        · rw [if_neg h2] at ih
          omega
  have := this n
  split at this <;> omega
theorem cnt_le (n : Nat) (p : Nat → Bool) : cnt n p ≤ n := by
  have := List.countP_le_length (p := p) (l := List.range n)
  rw [List.length_range] at this
  exact this
theorem cnt_len (n : Nat) (p : Nat → Bool) : ((List.range n).filter p).length = cnt n p := by
  unfold cnt
  rw [List.countP_eq_length_filter]
theorem cnt_up {n m : Nat} (h : n ≤ m) (p : Nat → Bool) : cnt n p ≤ cnt m p := by
  induction h with
  | refl => exact Nat.le_refl _
  | step _ ih => rw [cnt_succ]; omega
def Be (sp : List (Int × Int)) (j : Nat) : Int := (sp.getD j (0, 0)).1
structure Up (sp : List (Int × Int)) : Prop where
  up : ∀ i j, i ≤ j → j < sp.length → Be sp i ≤ Be sp j
  lt : ∀ i, i < sp.length → Be sp i < En' sp i
theorem Spans.up' {sp : List (Int × Int)} (h : Spans sp) : Up sp where
  up i j hij hj := by
    rcases Nat.lt_or_eq_of_le hij with e | e
    · have := List.pairwise_iff_getElem.mp h.up i j (by omega) hj e
      unfold Be
      rw [List.getD_eq_getElem?_getD, List.getD_eq_getElem?_getD, List.getElem?_eq_getElem hj, List.getElem?_eq_getElem (by omega)]
      exact this
    · rw [e]
      exact Int.le_refl _
  lt i hi := by
    have := h.ne _ (getD_mem (d := (0, 0)) hi)
    exact this
/-- a lot fits k rooms -/
def Fit (sp : List (Int × Int)) (k : Nat) (c : Nat → Bool) : Prop := ∀ i, i < sp.length → cnt (i + 1) (fun j => c j && decide (Be sp i < En' sp j)) ≤ k
/-- each lot has a code -/
theorem code_of (c : Nat → Bool) : ∀ n, ∃ z, z < 2 ^ n ∧ ∀ i, i < n → (decide (z / 2 ^ i % 2 = 1) = c i)
  | 0 => ⟨0, by decide, fun i hi => by omega⟩
  | n + 1 => by
    obtain ⟨z, hz, h⟩ := code_of c n
    refine ⟨z + (if c n = true then 2 ^ n else 0), ?_, fun i hi => ?_⟩
    · rw [Nat.pow_succ]
      split <;> omega
    · have hp : 0 < 2 ^ n := Nat.two_pow_pos n
      rcases Nat.lt_or_ge i n with hi2 | hi2
      · rw [← h i hi2]
        split
        · have e : 2 ^ n = 2 ^ i * (2 * 2 ^ (n - i - 1)) := by
            rw [← Nat.mul_assoc, ← Nat.pow_succ, ← Nat.pow_add]
            congr 1
            omega
          rw [e, Nat.add_mul_div_left _ _ (Nat.two_pow_pos i), Nat.add_mul_mod_self_left]
        · rw [Nat.add_zero]
      · have e : i = n := by omega
        subst e
        split
        · next hc =>
          rw [Nat.add_div_right _ hp, Nat.div_eq_of_lt hz, hc]
          rfl
        · next hc =>
          rw [Nat.add_zero, Nat.div_eq_of_lt hz]
          have hc : c i = false := by simpa using hc
          rw [hc]
          rfl
/-! ### at once -/
def onc (l : List (Int × Int)) : List Int × Nat := l.foldl (fun s x => (s.1.filter (fun e => decide (x.1 < e)) ++ [x.2], max s.2 (s.1.filter (fun e => decide (x.1 < e)) ++ [x.2]).length)) ([], 0)
theorem onc_snoc (l : List (Int × Int)) (x : Int × Int) : onc (l ++ [x]) = ((onc l).1.filter (fun e => decide (x.1 < e)) ++ [x.2], max (onc l).2 ((onc l).1.filter (fun e => decide (x.1 < e)) ++ [x.2]).length) := by
  unfold onc
  rw [List.foldl_append]
  rfl
theorem snoc_ind {α : Type} {P : List α → Prop} (h0 : P []) (h1 : ∀ l x, P l → P (l ++ [x])) (l : List α) : P l := by
  rw [← List.reverse_reverse l]
  generalize l.reverse = m
  induction m with
  | nil => exact h0
  | cons x m ih =>
    rw [List.reverse_cons]
    exact h1 _ _ ih
theorem onc_len (l : List (Int × Int)) : (onc l).1.length ≤ l.length := snoc_ind (P := fun l => (onc l).1.length ≤ l.length) (Nat.le_refl _) (fun l x ih => by
    rw [onc_snoc, List.length_append, List.length_append]
    have := List.length_filter_le (fun e => decide (x.1 < e)) (onc l).1
    simp only [List.length_singleton]
    omega) l
theorem sp_once {l : List (Int × Int)} {Q : D → Prop} (hl : l.length ≤ 1000) (h : Q (iD (onc l).2)) : f_at_once [.lst (l.map fr)] Q := by
  simp only [x_sSq, x_sNx, x_sBk, x_sCt, x_sRet, x_sRetN, x_sIf, x_sAsg, x_sOwn, x_sPar, x_sPar3, x_sPx, x_sPx3, x_sPx4, x_xD, x_xF, x_sDrop, x_sFor, atE0, atES, frz_own, frz_d, frz_u, x_sFrz, slV_d, slV_own, slD_d, slO_own, x_sApp, exB_lst, x_sExt, x_sStx, x_gV, x_gD, x_gN, x_gT, x_gC, x_gE, x_mC, x_mL, x_m1, x_m2, x_mT, bB_bl, iB_int, x_mChain, x_mAnd, x_mOr, x_mNot, x_mAndV, x_mOrV, x_mNotV, x_mIte, x_aN, x_aC, x_mTup, x_mLst, x_mCall, x_add, x_addT, x_addL, x_sub, x_mul, x_div, x_mod, x_pow, x_shl, x_neg, x_lt, x_le, x_gt, x_ge, x_ltB, x_leB, x_gtB, x_geB, x_eq, x_ne, x_eqT, x_neT, x_eqL, x_neL, x_eqS, x_neS, x_eqB, x_neB, x_is, x_isN, x_isB, x_isNB, isNon_non, isNon_int, isNon_tup, isNon_lst, isNon_str, isNon_bl, x_inT, x_inL, x_ninT, x_ninL, x_ix0, x_ix1, x_ix2, x_ixl0, x_ixl1, x_ixl2, x_ixl3, oB_int, x_oN, x_oS, slB_lst, slB_tup, x_mSl, lB_lst, x_mSlF, x_mRev, rvB_lst, rvB_tup, x_mRevB, x_mCatF, x_mRepF, x_mulL, x_mulB, x_mulBT, x_lenL, x_lenT, x_abs, x_int, x_intB, x_max2, x_min2, x_tupL, x_tupT, x_lstL, x_lstT, x_sum, x_sumT, x_any, x_all, sqB_lst, sqB_tup, x_mSeqB, r1B_, x_mR1, r2B_, x_mR2, x_mEnumL, zpB_l, zpB_t, x_mZip, x_mZipB, zpX_ll, zpX_tt, zpX_tl, zpX_lt, x_rg1, x_rg2, x_mLRg, x_mTRg, x_mLc, wipe1, wipe2, wipe3, x_tTrue, x_fnM, x_pick, x_eqZl, x_neZl, x_eqZt, x_neZt, List.isEmpty_nil, List.isEmpty_cons, deq_ii, x_ite, sizeLine_is, true_and, and_true, forall_const, implies_true, not_true_eq_false, not_false_eq_true, false_implies, true_implies, Bool.true_eq_false, Bool.false_eq_true, decide_eq_true_eq, decide_true, decide_false, Bool.not_true, Bool.not_false, Bool.not_eq_true', decide_eq_false_iff_not, Decidable.not_not, x_flatF, x_mLc2, flat_bl, flat_int, flat_non, x_mR3, r3B_, cast_0, cast_1, cast_2, cast_3, Int.reduceEq, Int.reduceLT, Int.reduceLE, isi_int_non, isi_int_bl, isi_int_int, isi_int_str, isi_int_tup, isi_int_lst, isi_bool_non, isi_bool_bl, isi_bool_int, isi_bool_str, isi_bool_tup, isi_bool_lst, isi_tuple_non, isi_tuple_bl, isi_tuple_int, isi_tuple_str, isi_tuple_tup, isi_tuple_lst, isi_list_non, isi_list_bl, isi_list_int, isi_list_str, isi_list_tup, isi_list_lst, isi_str_non, isi_str_bl, isi_str_int, isi_str_str, isi_str_tup, isi_str_lst, isi_int_dct, isi_bool_dct, isi_tuple_dct, isi_list_dct, isi_str_dct, isi_dict_dct, isNon_dct, isi_q, sqB_q, len_q, isNon_q, q_ix0, q_ix1, q_eq, q_ne, List.length_cons, List.length_nil, Nat.reduceAdd, Nat.reduceLeDiff, Nat.reduceSub, Nat.zero_add, List.set_cons_zero, List.set_cons_succ, List.map_cons, List.map_nil, List.replicate_succ, List.replicate_zero, List.cons_append, List.nil_append, f_at_once, b_at_once, b_at_once_2]
  refine for_pre fr (fun p en => ∃ s3 s4 s5, en = [.d (.lst (l.map fr)), .d (.lst ((onc p).1.map .int)), .d (iD (onc p).2), s3, s4, s5]) ⟨.u, .u, .u, rfl⟩ (fun p x r en e hI N hN => ?_) fun en hI => ?_
  · obtain ⟨s3, s4, s5, rfl⟩ := hI
    obtain ⟨a, b⟩ := x
    have hp : p.length < 1000 := by
      rw [e, List.length_append, List.length_cons] at hl
      omega
    have ho := onc_len p
    have hf := List.length_filter_le (fun e => decide (a < e)) (onc p).1
    simp only [x_sSq, x_sNx, x_sBk, x_sCt, x_sRet, x_sRetN, x_sIf, x_sAsg, x_sOwn, x_sPar, x_sPar3, x_sPx, x_sPx3, x_sPx4, x_xD, x_xF, x_sDrop, x_sFor, atE0, atES, frz_own, frz_d, frz_u, x_sFrz, slV_d, slV_own, slD_d, slO_own, x_sApp, exB_lst, x_sExt, x_sStx, x_gV, x_gD, x_gN, x_gT, x_gC, x_gE, x_mC, x_mL, x_m1, x_m2, x_mT, bB_bl, iB_int, x_mChain, x_mAnd, x_mOr, x_mNot, x_mAndV, x_mOrV, x_mNotV, x_mIte, x_aN, x_aC, x_mTup, x_mLst, x_mCall, x_add, x_addT, x_addL, x_sub, x_mul, x_div, x_mod, x_pow, x_shl, x_neg, x_lt, x_le, x_gt, x_ge, x_ltB, x_leB, x_gtB, x_geB, x_eq, x_ne, x_eqT, x_neT, x_eqL, x_neL, x_eqS, x_neS, x_eqB, x_neB, x_is, x_isN, x_isB, x_isNB, isNon_non, isNon_int, isNon_tup, isNon_lst, isNon_str, isNon_bl, x_inT, x_inL, x_ninT, x_ninL, x_ix0, x_ix1, x_ix2, x_ixl0, x_ixl1, x_ixl2, x_ixl3, oB_int, x_oN, x_oS, slB_lst, slB_tup, x_mSl, lB_lst, x_mSlF, x_mRev, rvB_lst, rvB_tup, x_mRevB, x_mCatF, x_mRepF, x_mulL, x_mulB, x_mulBT, x_lenL, x_lenT, x_abs, x_int, x_intB, x_max2, x_min2, x_tupL, x_tupT, x_lstL, x_lstT, x_sum, x_sumT, x_any, x_all, sqB_lst, sqB_tup, x_mSeqB, r1B_, x_mR1, r2B_, x_mR2, x_mEnumL, zpB_l, zpB_t, x_mZip, x_mZipB, zpX_ll, zpX_tt, zpX_tl, zpX_lt, x_rg1, x_rg2, x_mLRg, x_mTRg, x_mLc, wipe1, wipe2, wipe3, x_tTrue, x_fnM, x_pick, x_eqZl, x_neZl, x_eqZt, x_neZt, List.isEmpty_nil, List.isEmpty_cons, deq_ii, x_ite, sizeLine_is, true_and, and_true, forall_const, implies_true, not_true_eq_false, not_false_eq_true, false_implies, true_implies, Bool.true_eq_false, Bool.false_eq_true, decide_eq_true_eq, decide_true, decide_false, Bool.not_true, Bool.not_false, Bool.not_eq_true', decide_eq_false_iff_not, Decidable.not_not, x_flatF, x_mLc2, flat_bl, flat_int, flat_non, x_mR3, r3B_, cast_0, cast_1, cast_2, cast_3, Int.reduceEq, Int.reduceLT, Int.reduceLE, isi_int_non, isi_int_bl, isi_int_int, isi_int_str, isi_int_tup, isi_int_lst, isi_bool_non, isi_bool_bl, isi_bool_int, isi_bool_str, isi_bool_tup, isi_bool_lst, isi_tuple_non, isi_tuple_bl, isi_tuple_int, isi_tuple_str, isi_tuple_tup, isi_tuple_lst, isi_list_non, isi_list_bl, isi_list_int, isi_list_str, isi_list_tup, isi_list_lst, isi_str_non, isi_str_bl, isi_str_int, isi_str_str, isi_str_tup, isi_str_lst, isi_int_dct, isi_bool_dct, isi_tuple_dct, isi_list_dct, isi_str_dct, isi_dict_dct, isNon_dct, isi_q, sqB_q, len_q, isNon_q, q_ix0, q_ix1, q_eq, q_ne, List.length_cons, List.length_nil, Nat.reduceAdd, Nat.reduceLeDiff, Nat.reduceSub, Nat.zero_add, List.set_cons_zero, List.set_cons_succ, List.map_cons, List.map_nil, List.replicate_succ, List.replicate_zero, List.cons_append, List.nil_append, b_at_once_1, fr, List.length_map]
    refine ⟨by omega, lc_filE .int (fun e => decide (a < e)) .int (fun e he Qy Qn hy hn => ?_) ?_⟩
    · (try simp only [x_sSq, x_sNx, x_sBk, x_sCt, x_sRet, x_sRetN, x_sIf, x_sAsg, x_sOwn, x_sPar, x_sPar3, x_sPx, x_sPx3, x_sPx4, x_xD, x_xF, x_sDrop, x_sFor, atE0, atES, frz_own, frz_d, frz_u, x_sFrz, slV_d, slV_own, slD_d, slO_own, x_sApp, exB_lst, x_sExt, x_sStx, x_gV, x_gD, x_gN, x_gT, x_gC, x_gE, x_mC, x_mL, x_m1, x_m2, x_mT, bB_bl, iB_int, x_mChain, x_mAnd, x_mOr, x_mNot, x_mAndV, x_mOrV, x_mNotV, x_mIte, x_aN, x_aC, x_mTup, x_mLst, x_mCall, x_add, x_addT, x_addL, x_sub, x_mul, x_div, x_mod, x_pow, x_shl, x_neg, x_lt, x_le, x_gt, x_ge, x_ltB, x_leB, x_gtB, x_geB, x_eq, x_ne, x_eqT, x_neT, x_eqL, x_neL, x_eqS, x_neS, x_eqB, x_neB, x_is, x_isN, x_isB, x_isNB, isNon_non, isNon_int, isNon_tup, isNon_lst, isNon_str, isNon_bl, x_inT, x_inL, x_ninT, x_ninL, x_ix0, x_ix1, x_ix2, x_ixl0, x_ixl1, x_ixl2, x_ixl3, oB_int, x_oN, x_oS, slB_lst, slB_tup, x_mSl, lB_lst, x_mSlF, x_mRev, rvB_lst, rvB_tup, x_mRevB, x_mCatF, x_mRepF, x_mulL, x_mulB, x_mulBT, x_lenL, x_lenT, x_abs, x_int, x_intB, x_max2, x_min2, x_tupL, x_tupT, x_lstL, x_lstT, x_sum, x_sumT, x_any, x_all, sqB_lst, sqB_tup, x_mSeqB, r1B_, x_mR1, r2B_, x_mR2, x_mEnumL, zpB_l, zpB_t, x_mZip, x_mZipB, zpX_ll, zpX_tt, zpX_tl, zpX_lt, x_rg1, x_rg2, x_mLRg, x_mTRg, x_mLc, wipe1, wipe2, wipe3, x_tTrue, x_fnM, x_pick, x_eqZl, x_neZl, x_eqZt, x_neZt, List.isEmpty_nil, List.isEmpty_cons, deq_ii, x_ite, sizeLine_is, true_and, and_true, forall_const, implies_true, not_true_eq_false, not_false_eq_true, false_implies, true_implies, Bool.true_eq_false, Bool.false_eq_true, decide_eq_true_eq, decide_true, decide_false, Bool.not_true, Bool.not_false, Bool.not_eq_true', decide_eq_false_iff_not, Decidable.not_not, x_flatF, x_mLc2, flat_bl, flat_int, flat_non, x_mR3, r3B_, cast_0, cast_1, cast_2, cast_3, Int.reduceEq, Int.reduceLT, Int.reduceLE, isi_int_non, isi_int_bl, isi_int_int, isi_int_str, isi_int_tup, isi_int_lst, isi_bool_non, isi_bool_bl, isi_bool_int, isi_bool_str, isi_bool_tup, isi_bool_lst, isi_tuple_non, isi_tuple_bl, isi_tuple_int, isi_tuple_str, isi_tuple_tup, isi_tuple_lst, isi_list_non, isi_list_bl, isi_list_int, isi_list_str, isi_list_tup, isi_list_lst, isi_str_non, isi_str_bl, isi_str_int, isi_str_str, isi_str_tup, isi_str_lst, isi_int_dct, isi_bool_dct, isi_tuple_dct, isi_list_dct, isi_str_dct, isi_dict_dct, isNon_dct, isi_q, sqB_q, len_q, isNon_q, q_ix0, q_ix1, q_eq, q_ne, List.length_cons, List.length_nil, Nat.reduceAdd, Nat.reduceLeDiff, Nat.reduceSub, Nat.zero_add, List.set_cons_zero, List.set_cons_succ, List.map_cons, List.map_nil, List.replicate_succ, List.replicate_zero, List.cons_append, List.nil_append])
      exact ⟨fun h => hy (decide_eq_true h), fun h => hn (decide_eq_false h)⟩
    · simp only [x_sSq, x_sNx, x_sBk, x_sCt, x_sRet, x_sRetN, x_sIf, x_sAsg, x_sOwn, x_sPar, x_sPar3, x_sPx, x_sPx3, x_sPx4, x_xD, x_xF, x_sDrop, x_sFor, atE0, atES, frz_own, frz_d, frz_u, x_sFrz, slV_d, slV_own, slD_d, slO_own, x_sApp, exB_lst, x_sExt, x_sStx, x_gV, x_gD, x_gN, x_gT, x_gC, x_gE, x_mC, x_mL, x_m1, x_m2, x_mT, bB_bl, iB_int, x_mChain, x_mAnd, x_mOr, x_mNot, x_mAndV, x_mOrV, x_mNotV, x_mIte, x_aN, x_aC, x_mTup, x_mLst, x_mCall, x_add, x_addT, x_addL, x_sub, x_mul, x_div, x_mod, x_pow, x_shl, x_neg, x_lt, x_le, x_gt, x_ge, x_ltB, x_leB, x_gtB, x_geB, x_eq, x_ne, x_eqT, x_neT, x_eqL, x_neL, x_eqS, x_neS, x_eqB, x_neB, x_is, x_isN, x_isB, x_isNB, isNon_non, isNon_int, isNon_tup, isNon_lst, isNon_str, isNon_bl, x_inT, x_inL, x_ninT, x_ninL, x_ix0, x_ix1, x_ix2, x_ixl0, x_ixl1, x_ixl2, x_ixl3, oB_int, x_oN, x_oS, slB_lst, slB_tup, x_mSl, lB_lst, x_mSlF, x_mRev, rvB_lst, rvB_tup, x_mRevB, x_mCatF, x_mRepF, x_mulL, x_mulB, x_mulBT, x_lenL, x_lenT, x_abs, x_int, x_intB, x_max2, x_min2, x_tupL, x_tupT, x_lstL, x_lstT, x_sum, x_sumT, x_any, x_all, sqB_lst, sqB_tup, x_mSeqB, r1B_, x_mR1, r2B_, x_mR2, x_mEnumL, zpB_l, zpB_t, x_mZip, x_mZipB, zpX_ll, zpX_tt, zpX_tl, zpX_lt, x_rg1, x_rg2, x_mLRg, x_mTRg, x_mLc, wipe1, wipe2, wipe3, x_tTrue, x_fnM, x_pick, x_eqZl, x_neZl, x_eqZt, x_neZt, List.isEmpty_nil, List.isEmpty_cons, deq_ii, x_ite, sizeLine_is, true_and, and_true, forall_const, implies_true, not_true_eq_false, not_false_eq_true, false_implies, true_implies, Bool.true_eq_false, Bool.false_eq_true, decide_eq_true_eq, decide_true, decide_false, Bool.not_true, Bool.not_false, Bool.not_eq_true', decide_eq_false_iff_not, Decidable.not_not, x_flatF, x_mLc2, flat_bl, flat_int, flat_non, x_mR3, r3B_, cast_0, cast_1, cast_2, cast_3, Int.reduceEq, Int.reduceLT, Int.reduceLE, isi_int_non, isi_int_bl, isi_int_int, isi_int_str, isi_int_tup, isi_int_lst, isi_bool_non, isi_bool_bl, isi_bool_int, isi_bool_str, isi_bool_tup, isi_bool_lst, isi_tuple_non, isi_tuple_bl, isi_tuple_int, isi_tuple_str, isi_tuple_tup, isi_tuple_lst, isi_list_non, isi_list_bl, isi_list_int, isi_list_str, isi_list_tup, isi_list_lst, isi_str_non, isi_str_bl, isi_str_int, isi_str_str, isi_str_tup, isi_str_lst, isi_int_dct, isi_bool_dct, isi_tuple_dct, isi_list_dct, isi_str_dct, isi_dict_dct, isNon_dct, isi_q, sqB_q, len_q, isNon_q, q_ix0, q_ix1, q_eq, q_ne, List.length_cons, List.length_nil, Nat.reduceAdd, Nat.reduceLeDiff, Nat.reduceSub, Nat.zero_add, List.set_cons_zero, List.set_cons_succ, List.map_cons, List.map_nil, List.replicate_succ, List.replicate_zero, List.cons_append, List.nil_append, List.length_map]
      refine ⟨by omega, ?_⟩
      unfold iD
      simp only [x_sSq, x_sNx, x_sBk, x_sCt, x_sRet, x_sRetN, x_sIf, x_sAsg, x_sOwn, x_sPar, x_sPar3, x_sPx, x_sPx3, x_sPx4, x_xD, x_xF, x_sDrop, x_sFor, atE0, atES, frz_own, frz_d, frz_u, x_sFrz, slV_d, slV_own, slD_d, slO_own, x_sApp, exB_lst, x_sExt, x_sStx, x_gV, x_gD, x_gN, x_gT, x_gC, x_gE, x_mC, x_mL, x_m1, x_m2, x_mT, bB_bl, iB_int, x_mChain, x_mAnd, x_mOr, x_mNot, x_mAndV, x_mOrV, x_mNotV, x_mIte, x_aN, x_aC, x_mTup, x_mLst, x_mCall, x_add, x_addT, x_addL, x_sub, x_mul, x_div, x_mod, x_pow, x_shl, x_neg, x_lt, x_le, x_gt, x_ge, x_ltB, x_leB, x_gtB, x_geB, x_eq, x_ne, x_eqT, x_neT, x_eqL, x_neL, x_eqS, x_neS, x_eqB, x_neB, x_is, x_isN, x_isB, x_isNB, isNon_non, isNon_int, isNon_tup, isNon_lst, isNon_str, isNon_bl, x_inT, x_inL, x_ninT, x_ninL, x_ix0, x_ix1, x_ix2, x_ixl0, x_ixl1, x_ixl2, x_ixl3, oB_int, x_oN, x_oS, slB_lst, slB_tup, x_mSl, lB_lst, x_mSlF, x_mRev, rvB_lst, rvB_tup, x_mRevB, x_mCatF, x_mRepF, x_mulL, x_mulB, x_mulBT, x_lenL, x_lenT, x_abs, x_int, x_intB, x_max2, x_min2, x_tupL, x_tupT, x_lstL, x_lstT, x_sum, x_sumT, x_any, x_all, sqB_lst, sqB_tup, x_mSeqB, r1B_, x_mR1, r2B_, x_mR2, x_mEnumL, zpB_l, zpB_t, x_mZip, x_mZipB, zpX_ll, zpX_tt, zpX_tl, zpX_lt, x_rg1, x_rg2, x_mLRg, x_mTRg, x_mLc, wipe1, wipe2, wipe3, x_tTrue, x_fnM, x_pick, x_eqZl, x_neZl, x_eqZt, x_neZt, List.isEmpty_nil, List.isEmpty_cons, deq_ii, x_ite, sizeLine_is, true_and, and_true, forall_const, implies_true, not_true_eq_false, not_false_eq_true, false_implies, true_implies, Bool.true_eq_false, Bool.false_eq_true, decide_eq_true_eq, decide_true, decide_false, Bool.not_true, Bool.not_false, Bool.not_eq_true', decide_eq_false_iff_not, Decidable.not_not, x_flatF, x_mLc2, flat_bl, flat_int, flat_non, x_mR3, r3B_, cast_0, cast_1, cast_2, cast_3, Int.reduceEq, Int.reduceLT, Int.reduceLE, isi_int_non, isi_int_bl, isi_int_int, isi_int_str, isi_int_tup, isi_int_lst, isi_bool_non, isi_bool_bl, isi_bool_int, isi_bool_str, isi_bool_tup, isi_bool_lst, isi_tuple_non, isi_tuple_bl, isi_tuple_int, isi_tuple_str, isi_tuple_tup, isi_tuple_lst, isi_list_non, isi_list_bl, isi_list_int, isi_list_str, isi_list_tup, isi_list_lst, isi_str_non, isi_str_bl, isi_str_int, isi_str_str, isi_str_tup, isi_str_lst, isi_int_dct, isi_bool_dct, isi_tuple_dct, isi_list_dct, isi_str_dct, isi_dict_dct, isNon_dct, isi_q, sqB_q, len_q, isNon_q, q_ix0, q_ix1, q_eq, q_ne, List.length_cons, List.length_nil, Nat.reduceAdd, Nat.reduceLeDiff, Nat.reduceSub, Nat.zero_add, List.set_cons_zero, List.set_cons_succ, List.map_cons, List.map_nil, List.replicate_succ, List.replicate_zero, List.cons_append, List.nil_append, List.length_append, List.length_map]
      refine hN _ ⟨.d (.int a), .d (.int b), s5, ?_⟩
      rw [onc_snoc, List.map_append, List.length_append]
      unfold iD
      simp only [List.length_singleton, List.map_cons, List.map_nil]
      have em : ∀ a b : Nat, ((max a b : Nat) : Int) = max (a : Int) (b : Int) := fun a b => by omega
      rw [em]
  · obtain ⟨s3, s4, s5, rfl⟩ := hI
    (try simp only [x_sSq, x_sNx, x_sBk, x_sCt, x_sRet, x_sRetN, x_sIf, x_sAsg, x_sOwn, x_sPar, x_sPar3, x_sPx, x_sPx3, x_sPx4, x_xD, x_xF, x_sDrop, x_sFor, atE0, atES, frz_own, frz_d, frz_u, x_sFrz, slV_d, slV_own, slD_d, slO_own, x_sApp, exB_lst, x_sExt, x_sStx, x_gV, x_gD, x_gN, x_gT, x_gC, x_gE, x_mC, x_mL, x_m1, x_m2, x_mT, bB_bl, iB_int, x_mChain, x_mAnd, x_mOr, x_mNot, x_mAndV, x_mOrV, x_mNotV, x_mIte, x_aN, x_aC, x_mTup, x_mLst, x_mCall, x_add, x_addT, x_addL, x_sub, x_mul, x_div, x_mod, x_pow, x_shl, x_neg, x_lt, x_le, x_gt, x_ge, x_ltB, x_leB, x_gtB, x_geB, x_eq, x_ne, x_eqT, x_neT, x_eqL, x_neL, x_eqS, x_neS, x_eqB, x_neB, x_is, x_isN, x_isB, x_isNB, isNon_non, isNon_int, isNon_tup, isNon_lst, isNon_str, isNon_bl, x_inT, x_inL, x_ninT, x_ninL, x_ix0, x_ix1, x_ix2, x_ixl0, x_ixl1, x_ixl2, x_ixl3, oB_int, x_oN, x_oS, slB_lst, slB_tup, x_mSl, lB_lst, x_mSlF, x_mRev, rvB_lst, rvB_tup, x_mRevB, x_mCatF, x_mRepF, x_mulL, x_mulB, x_mulBT, x_lenL, x_lenT, x_abs, x_int, x_intB, x_max2, x_min2, x_tupL, x_tupT, x_lstL, x_lstT, x_sum, x_sumT, x_any, x_all, sqB_lst, sqB_tup, x_mSeqB, r1B_, x_mR1, r2B_, x_mR2, x_mEnumL, zpB_l, zpB_t, x_mZip, x_mZipB, zpX_ll, zpX_tt, zpX_tl, zpX_lt, x_rg1, x_rg2, x_mLRg, x_mTRg, x_mLc, wipe1, wipe2, wipe3, x_tTrue, x_fnM, x_pick, x_eqZl, x_neZl, x_eqZt, x_neZt, List.isEmpty_nil, List.isEmpty_cons, deq_ii, x_ite, sizeLine_is, true_and, and_true, forall_const, implies_true, not_true_eq_false, not_false_eq_true, false_implies, true_implies, Bool.true_eq_false, Bool.false_eq_true, decide_eq_true_eq, decide_true, decide_false, Bool.not_true, Bool.not_false, Bool.not_eq_true', decide_eq_false_iff_not, Decidable.not_not, x_flatF, x_mLc2, flat_bl, flat_int, flat_non, x_mR3, r3B_, cast_0, cast_1, cast_2, cast_3, Int.reduceEq, Int.reduceLT, Int.reduceLE, isi_int_non, isi_int_bl, isi_int_int, isi_int_str, isi_int_tup, isi_int_lst, isi_bool_non, isi_bool_bl, isi_bool_int, isi_bool_str, isi_bool_tup, isi_bool_lst, isi_tuple_non, isi_tuple_bl, isi_tuple_int, isi_tuple_str, isi_tuple_tup, isi_tuple_lst, isi_list_non, isi_list_bl, isi_list_int, isi_list_str, isi_list_tup, isi_list_lst, isi_str_non, isi_str_bl, isi_str_int, isi_str_str, isi_str_tup, isi_str_lst, isi_int_dct, isi_bool_dct, isi_tuple_dct, isi_list_dct, isi_str_dct, isi_dict_dct, isNon_dct, isi_q, sqB_q, len_q, isNon_q, q_ix0, q_ix1, q_eq, q_ne, List.length_cons, List.length_nil, Nat.reduceAdd, Nat.reduceLeDiff, Nat.reduceSub, Nat.zero_add, List.set_cons_zero, List.set_cons_succ, List.map_cons, List.map_nil, List.replicate_succ, List.replicate_zero, List.cons_append, List.nil_append])
    exact h
theorem sp_onceT {l : List (Int × Int)} {Q : D → Prop} (hl : l.length ≤ 1000) (h : Q (iD (onc l).2)) : f_at_once [.tup (l.map fr)] Q := by
  simp only [x_sSq, x_sNx, x_sBk, x_sCt, x_sRet, x_sRetN, x_sIf, x_sAsg, x_sOwn, x_sPar, x_sPar3, x_sPx, x_sPx3, x_sPx4, x_xD, x_xF, x_sDrop, x_sFor, atE0, atES, frz_own, frz_d, frz_u, x_sFrz, slV_d, slV_own, slD_d, slO_own, x_sApp, exB_lst, x_sExt, x_sStx, x_gV, x_gD, x_gN, x_gT, x_gC, x_gE, x_mC, x_mL, x_m1, x_m2, x_mT, bB_bl, iB_int, x_mChain, x_mAnd, x_mOr, x_mNot, x_mAndV, x_mOrV, x_mNotV, x_mIte, x_aN, x_aC, x_mTup, x_mLst, x_mCall, x_add, x_addT, x_addL, x_sub, x_mul, x_div, x_mod, x_pow, x_shl, x_neg, x_lt, x_le, x_gt, x_ge, x_ltB, x_leB, x_gtB, x_geB, x_eq, x_ne, x_eqT, x_neT, x_eqL, x_neL, x_eqS, x_neS, x_eqB, x_neB, x_is, x_isN, x_isB, x_isNB, isNon_non, isNon_int, isNon_tup, isNon_lst, isNon_str, isNon_bl, x_inT, x_inL, x_ninT, x_ninL, x_ix0, x_ix1, x_ix2, x_ixl0, x_ixl1, x_ixl2, x_ixl3, oB_int, x_oN, x_oS, slB_lst, slB_tup, x_mSl, lB_lst, x_mSlF, x_mRev, rvB_lst, rvB_tup, x_mRevB, x_mCatF, x_mRepF, x_mulL, x_mulB, x_mulBT, x_lenL, x_lenT, x_abs, x_int, x_intB, x_max2, x_min2, x_tupL, x_tupT, x_lstL, x_lstT, x_sum, x_sumT, x_any, x_all, sqB_lst, sqB_tup, x_mSeqB, r1B_, x_mR1, r2B_, x_mR2, x_mEnumL, zpB_l, zpB_t, x_mZip, x_mZipB, zpX_ll, zpX_tt, zpX_tl, zpX_lt, x_rg1, x_rg2, x_mLRg, x_mTRg, x_mLc, wipe1, wipe2, wipe3, x_tTrue, x_fnM, x_pick, x_eqZl, x_neZl, x_eqZt, x_neZt, List.isEmpty_nil, List.isEmpty_cons, deq_ii, x_ite, sizeLine_is, true_and, and_true, forall_const, implies_true, not_true_eq_false, not_false_eq_true, false_implies, true_implies, Bool.true_eq_false, Bool.false_eq_true, decide_eq_true_eq, decide_true, decide_false, Bool.not_true, Bool.not_false, Bool.not_eq_true', decide_eq_false_iff_not, Decidable.not_not, x_flatF, x_mLc2, flat_bl, flat_int, flat_non, x_mR3, r3B_, cast_0, cast_1, cast_2, cast_3, Int.reduceEq, Int.reduceLT, Int.reduceLE, isi_int_non, isi_int_bl, isi_int_int, isi_int_str, isi_int_tup, isi_int_lst, isi_bool_non, isi_bool_bl, isi_bool_int, isi_bool_str, isi_bool_tup, isi_bool_lst, isi_tuple_non, isi_tuple_bl, isi_tuple_int, isi_tuple_str, isi_tuple_tup, isi_tuple_lst, isi_list_non, isi_list_bl, isi_list_int, isi_list_str, isi_list_tup, isi_list_lst, isi_str_non, isi_str_bl, isi_str_int, isi_str_str, isi_str_tup, isi_str_lst, isi_int_dct, isi_bool_dct, isi_tuple_dct, isi_list_dct, isi_str_dct, isi_dict_dct, isNon_dct, isi_q, sqB_q, len_q, isNon_q, q_ix0, q_ix1, q_eq, q_ne, List.length_cons, List.length_nil, Nat.reduceAdd, Nat.reduceLeDiff, Nat.reduceSub, Nat.zero_add, List.set_cons_zero, List.set_cons_succ, List.map_cons, List.map_nil, List.replicate_succ, List.replicate_zero, List.cons_append, List.nil_append, f_at_once, b_at_once, b_at_once_2]
  refine for_pre fr (fun p en => ∃ s3 s4 s5, en = [.d (.tup (l.map fr)), .d (.lst ((onc p).1.map .int)), .d (iD (onc p).2), s3, s4, s5]) ⟨.u, .u, .u, rfl⟩ (fun p x r en e hI N hN => ?_) fun en hI => ?_
  · obtain ⟨s3, s4, s5, rfl⟩ := hI
    obtain ⟨a, b⟩ := x
    have hp : p.length < 1000 := by
      rw [e, List.length_append, List.length_cons] at hl
      omega
    have ho := onc_len p
    have hf := List.length_filter_le (fun e => decide (a < e)) (onc p).1
    simp only [x_sSq, x_sNx, x_sBk, x_sCt, x_sRet, x_sRetN, x_sIf, x_sAsg, x_sOwn, x_sPar, x_sPar3, x_sPx, x_sPx3, x_sPx4, x_xD, x_xF, x_sDrop, x_sFor, atE0, atES, frz_own, frz_d, frz_u, x_sFrz, slV_d, slV_own, slD_d, slO_own, x_sApp, exB_lst, x_sExt, x_sStx, x_gV, x_gD, x_gN, x_gT, x_gC, x_gE, x_mC, x_mL, x_m1, x_m2, x_mT, bB_bl, iB_int, x_mChain, x_mAnd, x_mOr, x_mNot, x_mAndV, x_mOrV, x_mNotV, x_mIte, x_aN, x_aC, x_mTup, x_mLst, x_mCall, x_add, x_addT, x_addL, x_sub, x_mul, x_div, x_mod, x_pow, x_shl, x_neg, x_lt, x_le, x_gt, x_ge, x_ltB, x_leB, x_gtB, x_geB, x_eq, x_ne, x_eqT, x_neT, x_eqL, x_neL, x_eqS, x_neS, x_eqB, x_neB, x_is, x_isN, x_isB, x_isNB, isNon_non, isNon_int, isNon_tup, isNon_lst, isNon_str, isNon_bl, x_inT, x_inL, x_ninT, x_ninL, x_ix0, x_ix1, x_ix2, x_ixl0, x_ixl1, x_ixl2, x_ixl3, oB_int, x_oN, x_oS, slB_lst, slB_tup, x_mSl, lB_lst, x_mSlF, x_mRev, rvB_lst, rvB_tup, x_mRevB, x_mCatF, x_mRepF, x_mulL, x_mulB, x_mulBT, x_lenL, x_lenT, x_abs, x_int, x_intB, x_max2, x_min2, x_tupL, x_tupT, x_lstL, x_lstT, x_sum, x_sumT, x_any, x_all, sqB_lst, sqB_tup, x_mSeqB, r1B_, x_mR1, r2B_, x_mR2, x_mEnumL, zpB_l, zpB_t, x_mZip, x_mZipB, zpX_ll, zpX_tt, zpX_tl, zpX_lt, x_rg1, x_rg2, x_mLRg, x_mTRg, x_mLc, wipe1, wipe2, wipe3, x_tTrue, x_fnM, x_pick, x_eqZl, x_neZl, x_eqZt, x_neZt, List.isEmpty_nil, List.isEmpty_cons, deq_ii, x_ite, sizeLine_is, true_and, and_true, forall_const, implies_true, not_true_eq_false, not_false_eq_true, false_implies, true_implies, Bool.true_eq_false, Bool.false_eq_true, decide_eq_true_eq, decide_true, decide_false, Bool.not_true, Bool.not_false, Bool.not_eq_true', decide_eq_false_iff_not, Decidable.not_not, x_flatF, x_mLc2, flat_bl, flat_int, flat_non, x_mR3, r3B_, cast_0, cast_1, cast_2, cast_3, Int.reduceEq, Int.reduceLT, Int.reduceLE, isi_int_non, isi_int_bl, isi_int_int, isi_int_str, isi_int_tup, isi_int_lst, isi_bool_non, isi_bool_bl, isi_bool_int, isi_bool_str, isi_bool_tup, isi_bool_lst, isi_tuple_non, isi_tuple_bl, isi_tuple_int, isi_tuple_str, isi_tuple_tup, isi_tuple_lst, isi_list_non, isi_list_bl, isi_list_int, isi_list_str, isi_list_tup, isi_list_lst, isi_str_non, isi_str_bl, isi_str_int, isi_str_str, isi_str_tup, isi_str_lst, isi_int_dct, isi_bool_dct, isi_tuple_dct, isi_list_dct, isi_str_dct, isi_dict_dct, isNon_dct, isi_q, sqB_q, len_q, isNon_q, q_ix0, q_ix1, q_eq, q_ne, List.length_cons, List.length_nil, Nat.reduceAdd, Nat.reduceLeDiff, Nat.reduceSub, Nat.zero_add, List.set_cons_zero, List.set_cons_succ, List.map_cons, List.map_nil, List.replicate_succ, List.replicate_zero, List.cons_append, List.nil_append, b_at_once_1, fr, List.length_map]
    refine ⟨by omega, lc_filE .int (fun e => decide (a < e)) .int (fun e he Qy Qn hy hn => ?_) ?_⟩
    · (try simp only [x_sSq, x_sNx, x_sBk, x_sCt, x_sRet, x_sRetN, x_sIf, x_sAsg, x_sOwn, x_sPar, x_sPar3, x_sPx, x_sPx3, x_sPx4, x_xD, x_xF, x_sDrop, x_sFor, atE0, atES, frz_own, frz_d, frz_u, x_sFrz, slV_d, slV_own, slD_d, slO_own, x_sApp, exB_lst, x_sExt, x_sStx, x_gV, x_gD, x_gN, x_gT, x_gC, x_gE, x_mC, x_mL, x_m1, x_m2, x_mT, bB_bl, iB_int, x_mChain, x_mAnd, x_mOr, x_mNot, x_mAndV, x_mOrV, x_mNotV, x_mIte, x_aN, x_aC, x_mTup, x_mLst, x_mCall, x_add, x_addT, x_addL, x_sub, x_mul, x_div, x_mod, x_pow, x_shl, x_neg, x_lt, x_le, x_gt, x_ge, x_ltB, x_leB, x_gtB, x_geB, x_eq, x_ne, x_eqT, x_neT, x_eqL, x_neL, x_eqS, x_neS, x_eqB, x_neB, x_is, x_isN, x_isB, x_isNB, isNon_non, isNon_int, isNon_tup, isNon_lst, isNon_str, isNon_bl, x_inT, x_inL, x_ninT, x_ninL, x_ix0, x_ix1, x_ix2, x_ixl0, x_ixl1, x_ixl2, x_ixl3, oB_int, x_oN, x_oS, slB_lst, slB_tup, x_mSl, lB_lst, x_mSlF, x_mRev, rvB_lst, rvB_tup, x_mRevB, x_mCatF, x_mRepF, x_mulL, x_mulB, x_mulBT, x_lenL, x_lenT, x_abs, x_int, x_intB, x_max2, x_min2, x_tupL, x_tupT, x_lstL, x_lstT, x_sum, x_sumT, x_any, x_all, sqB_lst, sqB_tup, x_mSeqB, r1B_, x_mR1, r2B_, x_mR2, x_mEnumL, zpB_l, zpB_t, x_mZip, x_mZipB, zpX_ll, zpX_tt, zpX_tl, zpX_lt, x_rg1, x_rg2, x_mLRg, x_mTRg, x_mLc, wipe1, wipe2, wipe3, x_tTrue, x_fnM, x_pick, x_eqZl, x_neZl, x_eqZt, x_neZt, List.isEmpty_nil, List.isEmpty_cons, deq_ii, x_ite, sizeLine_is, true_and, and_true, forall_const, implies_true, not_true_eq_false, not_false_eq_true, false_implies, true_implies, Bool.true_eq_false, Bool.false_eq_true, decide_eq_true_eq, decide_true, decide_false, Bool.not_true, Bool.not_false, Bool.not_eq_true', decide_eq_false_iff_not, Decidable.not_not, x_flatF, x_mLc2, flat_bl, flat_int, flat_non, x_mR3, r3B_, cast_0, cast_1, cast_2, cast_3, Int.reduceEq, Int.reduceLT, Int.reduceLE, isi_int_non, isi_int_bl, isi_int_int, isi_int_str, isi_int_tup, isi_int_lst, isi_bool_non, isi_bool_bl, isi_bool_int, isi_bool_str, isi_bool_tup, isi_bool_lst, isi_tuple_non, isi_tuple_bl, isi_tuple_int, isi_tuple_str, isi_tuple_tup, isi_tuple_lst, isi_list_non, isi_list_bl, isi_list_int, isi_list_str, isi_list_tup, isi_list_lst, isi_str_non, isi_str_bl, isi_str_int, isi_str_str, isi_str_tup, isi_str_lst, isi_int_dct, isi_bool_dct, isi_tuple_dct, isi_list_dct, isi_str_dct, isi_dict_dct, isNon_dct, isi_q, sqB_q, len_q, isNon_q, q_ix0, q_ix1, q_eq, q_ne, List.length_cons, List.length_nil, Nat.reduceAdd, Nat.reduceLeDiff, Nat.reduceSub, Nat.zero_add, List.set_cons_zero, List.set_cons_succ, List.map_cons, List.map_nil, List.replicate_succ, List.replicate_zero, List.cons_append, List.nil_append])
      exact ⟨fun h => hy (decide_eq_true h), fun h => hn (decide_eq_false h)⟩
    · simp only [x_sSq, x_sNx, x_sBk, x_sCt, x_sRet, x_sRetN, x_sIf, x_sAsg, x_sOwn, x_sPar, x_sPar3, x_sPx, x_sPx3, x_sPx4, x_xD, x_xF, x_sDrop, x_sFor, atE0, atES, frz_own, frz_d, frz_u, x_sFrz, slV_d, slV_own, slD_d, slO_own, x_sApp, exB_lst, x_sExt, x_sStx, x_gV, x_gD, x_gN, x_gT, x_gC, x_gE, x_mC, x_mL, x_m1, x_m2, x_mT, bB_bl, iB_int, x_mChain, x_mAnd, x_mOr, x_mNot, x_mAndV, x_mOrV, x_mNotV, x_mIte, x_aN, x_aC, x_mTup, x_mLst, x_mCall, x_add, x_addT, x_addL, x_sub, x_mul, x_div, x_mod, x_pow, x_shl, x_neg, x_lt, x_le, x_gt, x_ge, x_ltB, x_leB, x_gtB, x_geB, x_eq, x_ne, x_eqT, x_neT, x_eqL, x_neL, x_eqS, x_neS, x_eqB, x_neB, x_is, x_isN, x_isB, x_isNB, isNon_non, isNon_int, isNon_tup, isNon_lst, isNon_str, isNon_bl, x_inT, x_inL, x_ninT, x_ninL, x_ix0, x_ix1, x_ix2, x_ixl0, x_ixl1, x_ixl2, x_ixl3, oB_int, x_oN, x_oS, slB_lst, slB_tup, x_mSl, lB_lst, x_mSlF, x_mRev, rvB_lst, rvB_tup, x_mRevB, x_mCatF, x_mRepF, x_mulL, x_mulB, x_mulBT, x_lenL, x_lenT, x_abs, x_int, x_intB, x_max2, x_min2, x_tupL, x_tupT, x_lstL, x_lstT, x_sum, x_sumT, x_any, x_all, sqB_lst, sqB_tup, x_mSeqB, r1B_, x_mR1, r2B_, x_mR2, x_mEnumL, zpB_l, zpB_t, x_mZip, x_mZipB, zpX_ll, zpX_tt, zpX_tl, zpX_lt, x_rg1, x_rg2, x_mLRg, x_mTRg, x_mLc, wipe1, wipe2, wipe3, x_tTrue, x_fnM, x_pick, x_eqZl, x_neZl, x_eqZt, x_neZt, List.isEmpty_nil, List.isEmpty_cons, deq_ii, x_ite, sizeLine_is, true_and, and_true, forall_const, implies_true, not_true_eq_false, not_false_eq_true, false_implies, true_implies, Bool.true_eq_false, Bool.false_eq_true, decide_eq_true_eq, decide_true, decide_false, Bool.not_true, Bool.not_false, Bool.not_eq_true', decide_eq_false_iff_not, Decidable.not_not, x_flatF, x_mLc2, flat_bl, flat_int, flat_non, x_mR3, r3B_, cast_0, cast_1, cast_2, cast_3, Int.reduceEq, Int.reduceLT, Int.reduceLE, isi_int_non, isi_int_bl, isi_int_int, isi_int_str, isi_int_tup, isi_int_lst, isi_bool_non, isi_bool_bl, isi_bool_int, isi_bool_str, isi_bool_tup, isi_bool_lst, isi_tuple_non, isi_tuple_bl, isi_tuple_int, isi_tuple_str, isi_tuple_tup, isi_tuple_lst, isi_list_non, isi_list_bl, isi_list_int, isi_list_str, isi_list_tup, isi_list_lst, isi_str_non, isi_str_bl, isi_str_int, isi_str_str, isi_str_tup, isi_str_lst, isi_int_dct, isi_bool_dct, isi_tuple_dct, isi_list_dct, isi_str_dct, isi_dict_dct, isNon_dct, isi_q, sqB_q, len_q, isNon_q, q_ix0, q_ix1, q_eq, q_ne, List.length_cons, List.length_nil, Nat.reduceAdd, Nat.reduceLeDiff, Nat.reduceSub, Nat.zero_add, List.set_cons_zero, List.set_cons_succ, List.map_cons, List.map_nil, List.replicate_succ, List.replicate_zero, List.cons_append, List.nil_append, List.length_map]
      refine ⟨by omega, ?_⟩
      unfold iD
      simp only [x_sSq, x_sNx, x_sBk, x_sCt, x_sRet, x_sRetN, x_sIf, x_sAsg, x_sOwn, x_sPar, x_sPar3, x_sPx, x_sPx3, x_sPx4, x_xD, x_xF, x_sDrop, x_sFor, atE0, atES, frz_own, frz_d, frz_u, x_sFrz, slV_d, slV_own, slD_d, slO_own, x_sApp, exB_lst, x_sExt, x_sStx, x_gV, x_gD, x_gN, x_gT, x_gC, x_gE, x_mC, x_mL, x_m1, x_m2, x_mT, bB_bl, iB_int, x_mChain, x_mAnd, x_mOr, x_mNot, x_mAndV, x_mOrV, x_mNotV, x_mIte, x_aN, x_aC, x_mTup, x_mLst, x_mCall, x_add, x_addT, x_addL, x_sub, x_mul, x_div, x_mod, x_pow, x_shl, x_neg, x_lt, x_le, x_gt, x_ge, x_ltB, x_leB, x_gtB, x_geB, x_eq, x_ne, x_eqT, x_neT, x_eqL, x_neL, x_eqS, x_neS, x_eqB, x_neB, x_is, x_isN, x_isB, x_isNB, isNon_non, isNon_int, isNon_tup, isNon_lst, isNon_str, isNon_bl, x_inT, x_inL, x_ninT, x_ninL, x_ix0, x_ix1, x_ix2, x_ixl0, x_ixl1, x_ixl2, x_ixl3, oB_int, x_oN, x_oS, slB_lst, slB_tup, x_mSl, lB_lst, x_mSlF, x_mRev, rvB_lst, rvB_tup, x_mRevB, x_mCatF, x_mRepF, x_mulL, x_mulB, x_mulBT, x_lenL, x_lenT, x_abs, x_int, x_intB, x_max2, x_min2, x_tupL, x_tupT, x_lstL, x_lstT, x_sum, x_sumT, x_any, x_all, sqB_lst, sqB_tup, x_mSeqB, r1B_, x_mR1, r2B_, x_mR2, x_mEnumL, zpB_l, zpB_t, x_mZip, x_mZipB, zpX_ll, zpX_tt, zpX_tl, zpX_lt, x_rg1, x_rg2, x_mLRg, x_mTRg, x_mLc, wipe1, wipe2, wipe3, x_tTrue, x_fnM, x_pick, x_eqZl, x_neZl, x_eqZt, x_neZt, List.isEmpty_nil, List.isEmpty_cons, deq_ii, x_ite, sizeLine_is, true_and, and_true, forall_const, implies_true, not_true_eq_false, not_false_eq_true, false_implies, true_implies, Bool.true_eq_false, Bool.false_eq_true, decide_eq_true_eq, decide_true, decide_false, Bool.not_true, Bool.not_false, Bool.not_eq_true', decide_eq_false_iff_not, Decidable.not_not, x_flatF, x_mLc2, flat_bl, flat_int, flat_non, x_mR3, r3B_, cast_0, cast_1, cast_2, cast_3, Int.reduceEq, Int.reduceLT, Int.reduceLE, isi_int_non, isi_int_bl, isi_int_int, isi_int_str, isi_int_tup, isi_int_lst, isi_bool_non, isi_bool_bl, isi_bool_int, isi_bool_str, isi_bool_tup, isi_bool_lst, isi_tuple_non, isi_tuple_bl, isi_tuple_int, isi_tuple_str, isi_tuple_tup, isi_tuple_lst, isi_list_non, isi_list_bl, isi_list_int, isi_list_str, isi_list_tup, isi_list_lst, isi_str_non, isi_str_bl, isi_str_int, isi_str_str, isi_str_tup, isi_str_lst, isi_int_dct, isi_bool_dct, isi_tuple_dct, isi_list_dct, isi_str_dct, isi_dict_dct, isNon_dct, isi_q, sqB_q, len_q, isNon_q, q_ix0, q_ix1, q_eq, q_ne, List.length_cons, List.length_nil, Nat.reduceAdd, Nat.reduceLeDiff, Nat.reduceSub, Nat.zero_add, List.set_cons_zero, List.set_cons_succ, List.map_cons, List.map_nil, List.replicate_succ, List.replicate_zero, List.cons_append, List.nil_append, List.length_append, List.length_map]
      refine hN _ ⟨.d (.int a), .d (.int b), s5, ?_⟩
      rw [onc_snoc, List.map_append, List.length_append]
      unfold iD
      simp only [List.length_singleton, List.map_cons, List.map_nil]
      have em : ∀ a b : Nat, ((max a b : Nat) : Int) = max (a : Int) (b : Int) := fun a b => by omega
      rw [em]
  · obtain ⟨s3, s4, s5, rfl⟩ := hI
    (try simp only [x_sSq, x_sNx, x_sBk, x_sCt, x_sRet, x_sRetN, x_sIf, x_sAsg, x_sOwn, x_sPar, x_sPar3, x_sPx, x_sPx3, x_sPx4, x_xD, x_xF, x_sDrop, x_sFor, atE0, atES, frz_own, frz_d, frz_u, x_sFrz, slV_d, slV_own, slD_d, slO_own, x_sApp, exB_lst, x_sExt, x_sStx, x_gV, x_gD, x_gN, x_gT, x_gC, x_gE, x_mC, x_mL, x_m1, x_m2, x_mT, bB_bl, iB_int, x_mChain, x_mAnd, x_mOr, x_mNot, x_mAndV, x_mOrV, x_mNotV, x_mIte, x_aN, x_aC, x_mTup, x_mLst, x_mCall, x_add, x_addT, x_addL, x_sub, x_mul, x_div, x_mod, x_pow, x_shl, x_neg, x_lt, x_le, x_gt, x_ge, x_ltB, x_leB, x_gtB, x_geB, x_eq, x_ne, x_eqT, x_neT, x_eqL, x_neL, x_eqS, x_neS, x_eqB, x_neB, x_is, x_isN, x_isB, x_isNB, isNon_non, isNon_int, isNon_tup, isNon_lst, isNon_str, isNon_bl, x_inT, x_inL, x_ninT, x_ninL, x_ix0, x_ix1, x_ix2, x_ixl0, x_ixl1, x_ixl2, x_ixl3, oB_int, x_oN, x_oS, slB_lst, slB_tup, x_mSl, lB_lst, x_mSlF, x_mRev, rvB_lst, rvB_tup, x_mRevB, x_mCatF, x_mRepF, x_mulL, x_mulB, x_mulBT, x_lenL, x_lenT, x_abs, x_int, x_intB, x_max2, x_min2, x_tupL, x_tupT, x_lstL, x_lstT, x_sum, x_sumT, x_any, x_all, sqB_lst, sqB_tup, x_mSeqB, r1B_, x_mR1, r2B_, x_mR2, x_mEnumL, zpB_l, zpB_t, x_mZip, x_mZipB, zpX_ll, zpX_tt, zpX_tl, zpX_lt, x_rg1, x_rg2, x_mLRg, x_mTRg, x_mLc, wipe1, wipe2, wipe3, x_tTrue, x_fnM, x_pick, x_eqZl, x_neZl, x_eqZt, x_neZt, List.isEmpty_nil, List.isEmpty_cons, deq_ii, x_ite, sizeLine_is, true_and, and_true, forall_const, implies_true, not_true_eq_false, not_false_eq_true, false_implies, true_implies, Bool.true_eq_false, Bool.false_eq_true, decide_eq_true_eq, decide_true, decide_false, Bool.not_true, Bool.not_false, Bool.not_eq_true', decide_eq_false_iff_not, Decidable.not_not, x_flatF, x_mLc2, flat_bl, flat_int, flat_non, x_mR3, r3B_, cast_0, cast_1, cast_2, cast_3, Int.reduceEq, Int.reduceLT, Int.reduceLE, isi_int_non, isi_int_bl, isi_int_int, isi_int_str, isi_int_tup, isi_int_lst, isi_bool_non, isi_bool_bl, isi_bool_int, isi_bool_str, isi_bool_tup, isi_bool_lst, isi_tuple_non, isi_tuple_bl, isi_tuple_int, isi_tuple_str, isi_tuple_tup, isi_tuple_lst, isi_list_non, isi_list_bl, isi_list_int, isi_list_str, isi_list_tup, isi_list_lst, isi_str_non, isi_str_bl, isi_str_int, isi_str_str, isi_str_tup, isi_str_lst, isi_int_dct, isi_bool_dct, isi_tuple_dct, isi_list_dct, isi_str_dct, isi_dict_dct, isNon_dct, isi_q, sqB_q, len_q, isNon_q, q_ix0, q_ix1, q_eq, q_ne, List.length_cons, List.length_nil, Nat.reduceAdd, Nat.reduceLeDiff, Nat.reduceSub, Nat.zero_add, List.set_cons_zero, List.set_cons_succ, List.map_cons, List.map_nil, List.replicate_succ, List.replicate_zero, List.cons_append, List.nil_append])
    exact h
theorem lot_map {sp : List (Int × Int)} (l : List Nat) : (l.map fun i => fr (sp.getD i (0, 0))) = (l.map fun i => sp.getD i (0, 0)).map fr := by
  rw [List.map_map]
  rfl
theorem sp_fit {sp : List (Int × Int)} {lot : List Nat} {k : Nat} {Q : D → Prop} (hl : lot.length ≤ 1000) (hm : ∀ i ∈ lot, i < sp.length) (h : Q (.bl (decide ((onc (lot.map fun i => sp.getD i (0, 0))).2 ≤ k)))) : f_does_fit [.tup (sp.map fr), .tup (lot.map iD), .int (k : Int)] Q := by
  simp only [x_sSq, x_sNx, x_sBk, x_sCt, x_sRet, x_sRetN, x_sIf, x_sAsg, x_sOwn, x_sPar, x_sPar3, x_sPx, x_sPx3, x_sPx4, x_xD, x_xF, x_sDrop, x_sFor, atE0, atES, frz_own, frz_d, frz_u, x_sFrz, slV_d, slV_own, slD_d, slO_own, x_sApp, exB_lst, x_sExt, x_sStx, x_gV, x_gD, x_gN, x_gT, x_gC, x_gE, x_mC, x_mL, x_m1, x_m2, x_mT, bB_bl, iB_int, x_mChain, x_mAnd, x_mOr, x_mNot, x_mAndV, x_mOrV, x_mNotV, x_mIte, x_aN, x_aC, x_mTup, x_mLst, x_mCall, x_add, x_addT, x_addL, x_sub, x_mul, x_div, x_mod, x_pow, x_shl, x_neg, x_lt, x_le, x_gt, x_ge, x_ltB, x_leB, x_gtB, x_geB, x_eq, x_ne, x_eqT, x_neT, x_eqL, x_neL, x_eqS, x_neS, x_eqB, x_neB, x_is, x_isN, x_isB, x_isNB, isNon_non, isNon_int, isNon_tup, isNon_lst, isNon_str, isNon_bl, x_inT, x_inL, x_ninT, x_ninL, x_ix0, x_ix1, x_ix2, x_ixl0, x_ixl1, x_ixl2, x_ixl3, oB_int, x_oN, x_oS, slB_lst, slB_tup, x_mSl, lB_lst, x_mSlF, x_mRev, rvB_lst, rvB_tup, x_mRevB, x_mCatF, x_mRepF, x_mulL, x_mulB, x_mulBT, x_lenL, x_lenT, x_abs, x_int, x_intB, x_max2, x_min2, x_tupL, x_tupT, x_lstL, x_lstT, x_sum, x_sumT, x_any, x_all, sqB_lst, sqB_tup, x_mSeqB, r1B_, x_mR1, r2B_, x_mR2, x_mEnumL, zpB_l, zpB_t, x_mZip, x_mZipB, zpX_ll, zpX_tt, zpX_tl, zpX_lt, x_rg1, x_rg2, x_mLRg, x_mTRg, x_mLc, wipe1, wipe2, wipe3, x_tTrue, x_fnM, x_pick, x_eqZl, x_neZl, x_eqZt, x_neZt, List.isEmpty_nil, List.isEmpty_cons, deq_ii, x_ite, sizeLine_is, true_and, and_true, forall_const, implies_true, not_true_eq_false, not_false_eq_true, false_implies, true_implies, Bool.true_eq_false, Bool.false_eq_true, decide_eq_true_eq, decide_true, decide_false, Bool.not_true, Bool.not_false, Bool.not_eq_true', decide_eq_false_iff_not, Decidable.not_not, x_flatF, x_mLc2, flat_bl, flat_int, flat_non, x_mR3, r3B_, cast_0, cast_1, cast_2, cast_3, Int.reduceEq, Int.reduceLT, Int.reduceLE, isi_int_non, isi_int_bl, isi_int_int, isi_int_str, isi_int_tup, isi_int_lst, isi_bool_non, isi_bool_bl, isi_bool_int, isi_bool_str, isi_bool_tup, isi_bool_lst, isi_tuple_non, isi_tuple_bl, isi_tuple_int, isi_tuple_str, isi_tuple_tup, isi_tuple_lst, isi_list_non, isi_list_bl, isi_list_int, isi_list_str, isi_list_tup, isi_list_lst, isi_str_non, isi_str_bl, isi_str_int, isi_str_str, isi_str_tup, isi_str_lst, isi_int_dct, isi_bool_dct, isi_tuple_dct, isi_list_dct, isi_str_dct, isi_dict_dct, isNon_dct, isi_q, sqB_q, len_q, isNon_q, q_ix0, q_ix1, q_eq, q_ne, List.length_cons, List.length_nil, Nat.reduceAdd, Nat.reduceLeDiff, Nat.reduceSub, Nat.zero_add, List.set_cons_zero, List.set_cons_succ, List.map_cons, List.map_nil, List.replicate_succ, List.replicate_zero, List.cons_append, List.nil_append, f_does_fit, b_does_fit, List.length_map]
  refine ⟨by omega, lc_mapE iD (fun i => fr (sp.getD i (0, 0))) (fun i hi Qy Qn hy => ?_) ?_⟩
  · unfold iD
    (try simp only [x_sSq, x_sNx, x_sBk, x_sCt, x_sRet, x_sRetN, x_sIf, x_sAsg, x_sOwn, x_sPar, x_sPar3, x_sPx, x_sPx3, x_sPx4, x_xD, x_xF, x_sDrop, x_sFor, atE0, atES, frz_own, frz_d, frz_u, x_sFrz, slV_d, slV_own, slD_d, slO_own, x_sApp, exB_lst, x_sExt, x_sStx, x_gV, x_gD, x_gN, x_gT, x_gC, x_gE, x_mC, x_mL, x_m1, x_m2, x_mT, bB_bl, iB_int, x_mChain, x_mAnd, x_mOr, x_mNot, x_mAndV, x_mOrV, x_mNotV, x_mIte, x_aN, x_aC, x_mTup, x_mLst, x_mCall, x_add, x_addT, x_addL, x_sub, x_mul, x_div, x_mod, x_pow, x_shl, x_neg, x_lt, x_le, x_gt, x_ge, x_ltB, x_leB, x_gtB, x_geB, x_eq, x_ne, x_eqT, x_neT, x_eqL, x_neL, x_eqS, x_neS, x_eqB, x_neB, x_is, x_isN, x_isB, x_isNB, isNon_non, isNon_int, isNon_tup, isNon_lst, isNon_str, isNon_bl, x_inT, x_inL, x_ninT, x_ninL, x_ix0, x_ix1, x_ix2, x_ixl0, x_ixl1, x_ixl2, x_ixl3, oB_int, x_oN, x_oS, slB_lst, slB_tup, x_mSl, lB_lst, x_mSlF, x_mRev, rvB_lst, rvB_tup, x_mRevB, x_mCatF, x_mRepF, x_mulL, x_mulB, x_mulBT, x_lenL, x_lenT, x_abs, x_int, x_intB, x_max2, x_min2, x_tupL, x_tupT, x_lstL, x_lstT, x_sum, x_sumT, x_any, x_all, sqB_lst, sqB_tup, x_mSeqB, r1B_, x_mR1, r2B_, x_mR2, x_mEnumL, zpB_l, zpB_t, x_mZip, x_mZipB, zpX_ll, zpX_tt, zpX_tl, zpX_lt, x_rg1, x_rg2, x_mLRg, x_mTRg, x_mLc, wipe1, wipe2, wipe3, x_tTrue, x_fnM, x_pick, x_eqZl, x_neZl, x_eqZt, x_neZt, List.isEmpty_nil, List.isEmpty_cons, deq_ii, x_ite, sizeLine_is, true_and, and_true, forall_const, implies_true, not_true_eq_false, not_false_eq_true, false_implies, true_implies, Bool.true_eq_false, Bool.false_eq_true, decide_eq_true_eq, decide_true, decide_false, Bool.not_true, Bool.not_false, Bool.not_eq_true', decide_eq_false_iff_not, Decidable.not_not, x_flatF, x_mLc2, flat_bl, flat_int, flat_non, x_mR3, r3B_, cast_0, cast_1, cast_2, cast_3, Int.reduceEq, Int.reduceLT, Int.reduceLE, isi_int_non, isi_int_bl, isi_int_int, isi_int_str, isi_int_tup, isi_int_lst, isi_bool_non, isi_bool_bl, isi_bool_int, isi_bool_str, isi_bool_tup, isi_bool_lst, isi_tuple_non, isi_tuple_bl, isi_tuple_int, isi_tuple_str, isi_tuple_tup, isi_tuple_lst, isi_list_non, isi_list_bl, isi_list_int, isi_list_str, isi_list_tup, isi_list_lst, isi_str_non, isi_str_bl, isi_str_int, isi_str_str, isi_str_tup, isi_str_lst, isi_int_dct, isi_bool_dct, isi_tuple_dct, isi_list_dct, isi_str_dct, isi_dict_dct, isNon_dct, isi_q, sqB_q, len_q, isNon_q, q_ix0, q_ix1, q_eq, q_ne, List.length_cons, List.length_nil, Nat.reduceAdd, Nat.reduceLeDiff, Nat.reduceSub, Nat.zero_add, List.set_cons_zero, List.set_cons_succ, List.map_cons, List.map_nil, List.replicate_succ, List.replicate_zero, List.cons_append, List.nil_append])
    exact ixA i rfl (sp_get (hm i hi)) hy
  · rw [lot_map]
    refine sp_once (by rw [List.length_map]; exact hl) ?_
    unfold iD
    (try simp only [x_sSq, x_sNx, x_sBk, x_sCt, x_sRet, x_sRetN, x_sIf, x_sAsg, x_sOwn, x_sPar, x_sPar3, x_sPx, x_sPx3, x_sPx4, x_xD, x_xF, x_sDrop, x_sFor, atE0, atES, frz_own, frz_d, frz_u, x_sFrz, slV_d, slV_own, slD_d, slO_own, x_sApp, exB_lst, x_sExt, x_sStx, x_gV, x_gD, x_gN, x_gT, x_gC, x_gE, x_mC, x_mL, x_m1, x_m2, x_mT, bB_bl, iB_int, x_mChain, x_mAnd, x_mOr, x_mNot, x_mAndV, x_mOrV, x_mNotV, x_mIte, x_aN, x_aC, x_mTup, x_mLst, x_mCall, x_add, x_addT, x_addL, x_sub, x_mul, x_div, x_mod, x_pow, x_shl, x_neg, x_lt, x_le, x_gt, x_ge, x_ltB, x_leB, x_gtB, x_geB, x_eq, x_ne, x_eqT, x_neT, x_eqL, x_neL, x_eqS, x_neS, x_eqB, x_neB, x_is, x_isN, x_isB, x_isNB, isNon_non, isNon_int, isNon_tup, isNon_lst, isNon_str, isNon_bl, x_inT, x_inL, x_ninT, x_ninL, x_ix0, x_ix1, x_ix2, x_ixl0, x_ixl1, x_ixl2, x_ixl3, oB_int, x_oN, x_oS, slB_lst, slB_tup, x_mSl, lB_lst, x_mSlF, x_mRev, rvB_lst, rvB_tup, x_mRevB, x_mCatF, x_mRepF, x_mulL, x_mulB, x_mulBT, x_lenL, x_lenT, x_abs, x_int, x_intB, x_max2, x_min2, x_tupL, x_tupT, x_lstL, x_lstT, x_sum, x_sumT, x_any, x_all, sqB_lst, sqB_tup, x_mSeqB, r1B_, x_mR1, r2B_, x_mR2, x_mEnumL, zpB_l, zpB_t, x_mZip, x_mZipB, zpX_ll, zpX_tt, zpX_tl, zpX_lt, x_rg1, x_rg2, x_mLRg, x_mTRg, x_mLc, wipe1, wipe2, wipe3, x_tTrue, x_fnM, x_pick, x_eqZl, x_neZl, x_eqZt, x_neZt, List.isEmpty_nil, List.isEmpty_cons, deq_ii, x_ite, sizeLine_is, true_and, and_true, forall_const, implies_true, not_true_eq_false, not_false_eq_true, false_implies, true_implies, Bool.true_eq_false, Bool.false_eq_true, decide_eq_true_eq, decide_true, decide_false, Bool.not_true, Bool.not_false, Bool.not_eq_true', decide_eq_false_iff_not, Decidable.not_not, x_flatF, x_mLc2, flat_bl, flat_int, flat_non, x_mR3, r3B_, cast_0, cast_1, cast_2, cast_3, Int.reduceEq, Int.reduceLT, Int.reduceLE, isi_int_non, isi_int_bl, isi_int_int, isi_int_str, isi_int_tup, isi_int_lst, isi_bool_non, isi_bool_bl, isi_bool_int, isi_bool_str, isi_bool_tup, isi_bool_lst, isi_tuple_non, isi_tuple_bl, isi_tuple_int, isi_tuple_str, isi_tuple_tup, isi_tuple_lst, isi_list_non, isi_list_bl, isi_list_int, isi_list_str, isi_list_tup, isi_list_lst, isi_str_non, isi_str_bl, isi_str_int, isi_str_str, isi_str_tup, isi_str_lst, isi_int_dct, isi_bool_dct, isi_tuple_dct, isi_list_dct, isi_str_dct, isi_dict_dct, isNon_dct, isi_q, sqB_q, len_q, isNon_q, q_ix0, q_ix1, q_eq, q_ne, List.length_cons, List.length_nil, Nat.reduceAdd, Nat.reduceLeDiff, Nat.reduceSub, Nat.zero_add, List.set_cons_zero, List.set_cons_succ, List.map_cons, List.map_nil, List.replicate_succ, List.replicate_zero, List.cons_append, List.nil_append])
    rw [show decide (((onc (lot.map fun i => sp.getD i (0, 0))).2 : Int) ≤ (k : Int)) = decide ((onc (lot.map fun i => sp.getD i (0, 0))).2 ≤ k) from decide_eq_decide.mpr (by omega)]
    exact h
/-- the lot that fits -/
theorem onc_fit {sp : List (Int × Int)} {k : Nat} (U : Up sp) {c : Nat → Bool} (hc : Fit sp k c) : ∀ i, i ≤ sp.length →
    (onc (((List.range i).filter c).map fun i => sp.getD i (0, 0))).2 ≤ k ∧ ∀ a, (∀ m, m < i → Be sp m ≤ a) → (onc (((List.range i).filter c).map fun i => sp.getD i (0, 0))).1.filter (fun e => decide (a < e)) = (((List.range i).filter c).map (En' sp)).filter fun e => decide (a < e)
  | 0, _ => ⟨Nat.zero_le _, fun a _ => rfl⟩
  | i + 1, hi => by
    obtain ⟨h1, h2⟩ := onc_fit U hc i (by omega)
    rw [List.range_succ, List.filter_append]
    cases hci : c i with
    | false =>
      rw [List.filter_cons_of_neg (by rw [hci]; decide), List.filter_nil, List.append_nil]
      exact ⟨h1, fun a ha => h2 a fun m hm => ha m (by omega)⟩
    | true =>
      rw [List.filter_cons_of_pos hci, List.filter_nil, List.map_append, List.map_singleton, onc_snoc]
      have h3 := h2 (Be sp i) fun m hm => U.up m i (by omega) (by omega)
      have e1 : (sp.getD i (0, 0)).1 = Be sp i := rfl
      have e2 : (sp.getD i (0, 0)).2 = En' sp i := rfl
      rw [e1, e2, h3]
      refine ⟨?_, fun a ha => ?_⟩
      · have h4 := hc i (by omega)
        rw [cnt_succ] at h4
        have e3 : (c i && decide (Be sp i < En' sp i)) = true := by
          rw [hci, decide_eq_true (U.lt i (by omega))]
          rfl
        rw [if_pos e3] at h4
        have e4 : ((((List.range i).filter c).map (En' sp)).filter fun e => decide (Be sp i < e)).length = cnt i (fun j => c j && decide (Be sp i < En' sp j)) := by
          rw [List.filter_map, List.length_map, List.filter_filter, ← cnt_len]
          congr 1
          exact List.filter_congr fun j _ => Bool.and_comm _ _
        dsimp only
        rw [List.length_append, e4, List.length_singleton]
        omega
      · dsimp only
        rw [List.map_append, List.filter_append, List.filter_append, List.filter_filter]
        congr 1
        refine List.filter_congr fun e _ => ?_
        have := ha i (by omega)
        rw [Bool.eq_iff_iff]
        simp only [Bool.and_eq_true, decide_eq_true_eq]
        omega
/-- the law's count -/
def lon (l : List (Int × Int)) : Nat := maxN (0 :: l.map fun x => (l.filter fun y => decide (y.1 ≤ x.1) && decide (x.1 < y.2)).length)
theorem lon_le {l : List (Int × Int)} {k : Nat} : lon l ≤ k ↔ ∀ x ∈ l, (l.filter fun y => decide (y.1 ≤ x.1) && decide (x.1 < y.2)).length ≤ k := by
  unfold lon
  constructor
  · intro h x hx
    exact Nat.le_trans (maxN_le (List.mem_cons_of_mem _ (List.mem_map.mpr ⟨x, hx, rfl⟩))) h
  · intro h
    have hm := maxN_mem (l := 0 :: l.map fun x => (l.filter fun y => decide (y.1 ≤ x.1) && decide (x.1 < y.2)).length) (List.cons_ne_nil _ _)
    rcases List.mem_cons.mp hm with e | hm
    · rw [e]
      exact Nat.zero_le _
    · obtain ⟨x, hx, e⟩ := List.mem_map.mp hm
      rw [← e]
      exact h x hx
theorem sp_lonce {l : List (Int × Int)} {Q : D → Prop} (hl : l.length ≤ 1000) (h : Q (iD (lon l))) : f__law_at_once [.lst (l.map fr)] Q := by
  simp only [x_sSq, x_sNx, x_sBk, x_sCt, x_sRet, x_sRetN, x_sIf, x_sAsg, x_sOwn, x_sPar, x_sPar3, x_sPx, x_sPx3, x_sPx4, x_xD, x_xF, x_sDrop, x_sFor, atE0, atES, frz_own, frz_d, frz_u, x_sFrz, slV_d, slV_own, slD_d, slO_own, x_sApp, exB_lst, x_sExt, x_sStx, x_gV, x_gD, x_gN, x_gT, x_gC, x_gE, x_mC, x_mL, x_m1, x_m2, x_mT, bB_bl, iB_int, x_mChain, x_mAnd, x_mOr, x_mNot, x_mAndV, x_mOrV, x_mNotV, x_mIte, x_aN, x_aC, x_mTup, x_mLst, x_mCall, x_add, x_addT, x_addL, x_sub, x_mul, x_div, x_mod, x_pow, x_shl, x_neg, x_lt, x_le, x_gt, x_ge, x_ltB, x_leB, x_gtB, x_geB, x_eq, x_ne, x_eqT, x_neT, x_eqL, x_neL, x_eqS, x_neS, x_eqB, x_neB, x_is, x_isN, x_isB, x_isNB, isNon_non, isNon_int, isNon_tup, isNon_lst, isNon_str, isNon_bl, x_inT, x_inL, x_ninT, x_ninL, x_ix0, x_ix1, x_ix2, x_ixl0, x_ixl1, x_ixl2, x_ixl3, oB_int, x_oN, x_oS, slB_lst, slB_tup, x_mSl, lB_lst, x_mSlF, x_mRev, rvB_lst, rvB_tup, x_mRevB, x_mCatF, x_mRepF, x_mulL, x_mulB, x_mulBT, x_lenL, x_lenT, x_abs, x_int, x_intB, x_max2, x_min2, x_tupL, x_tupT, x_lstL, x_lstT, x_sum, x_sumT, x_any, x_all, sqB_lst, sqB_tup, x_mSeqB, r1B_, x_mR1, r2B_, x_mR2, x_mEnumL, zpB_l, zpB_t, x_mZip, x_mZipB, zpX_ll, zpX_tt, zpX_tl, zpX_lt, x_rg1, x_rg2, x_mLRg, x_mTRg, x_mLc, wipe1, wipe2, wipe3, x_tTrue, x_fnM, x_pick, x_eqZl, x_neZl, x_eqZt, x_neZt, List.isEmpty_nil, List.isEmpty_cons, deq_ii, x_ite, sizeLine_is, true_and, and_true, forall_const, implies_true, not_true_eq_false, not_false_eq_true, false_implies, true_implies, Bool.true_eq_false, Bool.false_eq_true, decide_eq_true_eq, decide_true, decide_false, Bool.not_true, Bool.not_false, Bool.not_eq_true', decide_eq_false_iff_not, Decidable.not_not, x_flatF, x_mLc2, flat_bl, flat_int, flat_non, x_mR3, r3B_, cast_0, cast_1, cast_2, cast_3, Int.reduceEq, Int.reduceLT, Int.reduceLE, isi_int_non, isi_int_bl, isi_int_int, isi_int_str, isi_int_tup, isi_int_lst, isi_bool_non, isi_bool_bl, isi_bool_int, isi_bool_str, isi_bool_tup, isi_bool_lst, isi_tuple_non, isi_tuple_bl, isi_tuple_int, isi_tuple_str, isi_tuple_tup, isi_tuple_lst, isi_list_non, isi_list_bl, isi_list_int, isi_list_str, isi_list_tup, isi_list_lst, isi_str_non, isi_str_bl, isi_str_int, isi_str_str, isi_str_tup, isi_str_lst, isi_int_dct, isi_bool_dct, isi_tuple_dct, isi_list_dct, isi_str_dct, isi_dict_dct, isNon_dct, isi_q, sqB_q, len_q, isNon_q, q_ix0, q_ix1, q_eq, q_ne, List.length_cons, List.length_nil, Nat.reduceAdd, Nat.reduceLeDiff, Nat.reduceSub, Nat.zero_add, List.set_cons_zero, List.set_cons_succ, List.map_cons, List.map_nil, List.replicate_succ, List.replicate_zero, List.cons_append, List.nil_append, f__law_at_once, b__law_at_once, List.length_map]
  refine ⟨by omega, lc_mapE fr (fun x => .int x.1) (fun x hx Qy Qn hy => ?_) ?_⟩
  · simp only [x_sSq, x_sNx, x_sBk, x_sCt, x_sRet, x_sRetN, x_sIf, x_sAsg, x_sOwn, x_sPar, x_sPar3, x_sPx, x_sPx3, x_sPx4, x_xD, x_xF, x_sDrop, x_sFor, atE0, atES, frz_own, frz_d, frz_u, x_sFrz, slV_d, slV_own, slD_d, slO_own, x_sApp, exB_lst, x_sExt, x_sStx, x_gV, x_gD, x_gN, x_gT, x_gC, x_gE, x_mC, x_mL, x_m1, x_m2, x_mT, bB_bl, iB_int, x_mChain, x_mAnd, x_mOr, x_mNot, x_mAndV, x_mOrV, x_mNotV, x_mIte, x_aN, x_aC, x_mTup, x_mLst, x_mCall, x_add, x_addT, x_addL, x_sub, x_mul, x_div, x_mod, x_pow, x_shl, x_neg, x_lt, x_le, x_gt, x_ge, x_ltB, x_leB, x_gtB, x_geB, x_eq, x_ne, x_eqT, x_neT, x_eqL, x_neL, x_eqS, x_neS, x_eqB, x_neB, x_is, x_isN, x_isB, x_isNB, isNon_non, isNon_int, isNon_tup, isNon_lst, isNon_str, isNon_bl, x_inT, x_inL, x_ninT, x_ninL, x_ix0, x_ix1, x_ix2, x_ixl0, x_ixl1, x_ixl2, x_ixl3, oB_int, x_oN, x_oS, slB_lst, slB_tup, x_mSl, lB_lst, x_mSlF, x_mRev, rvB_lst, rvB_tup, x_mRevB, x_mCatF, x_mRepF, x_mulL, x_mulB, x_mulBT, x_lenL, x_lenT, x_abs, x_int, x_intB, x_max2, x_min2, x_tupL, x_tupT, x_lstL, x_lstT, x_sum, x_sumT, x_any, x_all, sqB_lst, sqB_tup, x_mSeqB, r1B_, x_mR1, r2B_, x_mR2, x_mEnumL, zpB_l, zpB_t, x_mZip, x_mZipB, zpX_ll, zpX_tt, zpX_tl, zpX_lt, x_rg1, x_rg2, x_mLRg, x_mTRg, x_mLc, wipe1, wipe2, wipe3, x_tTrue, x_fnM, x_pick, x_eqZl, x_neZl, x_eqZt, x_neZt, List.isEmpty_nil, List.isEmpty_cons, deq_ii, x_ite, sizeLine_is, true_and, and_true, forall_const, implies_true, not_true_eq_false, not_false_eq_true, false_implies, true_implies, Bool.true_eq_false, Bool.false_eq_true, decide_eq_true_eq, decide_true, decide_false, Bool.not_true, Bool.not_false, Bool.not_eq_true', decide_eq_false_iff_not, Decidable.not_not, x_flatF, x_mLc2, flat_bl, flat_int, flat_non, x_mR3, r3B_, cast_0, cast_1, cast_2, cast_3, Int.reduceEq, Int.reduceLT, Int.reduceLE, isi_int_non, isi_int_bl, isi_int_int, isi_int_str, isi_int_tup, isi_int_lst, isi_bool_non, isi_bool_bl, isi_bool_int, isi_bool_str, isi_bool_tup, isi_bool_lst, isi_tuple_non, isi_tuple_bl, isi_tuple_int, isi_tuple_str, isi_tuple_tup, isi_tuple_lst, isi_list_non, isi_list_bl, isi_list_int, isi_list_str, isi_list_tup, isi_list_lst, isi_str_non, isi_str_bl, isi_str_int, isi_str_str, isi_str_tup, isi_str_lst, isi_int_dct, isi_bool_dct, isi_tuple_dct, isi_list_dct, isi_str_dct, isi_dict_dct, isNon_dct, isi_q, sqB_q, len_q, isNon_q, q_ix0, q_ix1, q_eq, q_ne, List.length_cons, List.length_nil, Nat.reduceAdd, Nat.reduceLeDiff, Nat.reduceSub, Nat.zero_add, List.set_cons_zero, List.set_cons_succ, List.map_cons, List.map_nil, List.replicate_succ, List.replicate_zero, List.cons_append, List.nil_append, fr]
    exact hy
  · simp only [x_sSq, x_sNx, x_sBk, x_sCt, x_sRet, x_sRetN, x_sIf, x_sAsg, x_sOwn, x_sPar, x_sPar3, x_sPx, x_sPx3, x_sPx4, x_xD, x_xF, x_sDrop, x_sFor, atE0, atES, frz_own, frz_d, frz_u, x_sFrz, slV_d, slV_own, slD_d, slO_own, x_sApp, exB_lst, x_sExt, x_sStx, x_gV, x_gD, x_gN, x_gT, x_gC, x_gE, x_mC, x_mL, x_m1, x_m2, x_mT, bB_bl, iB_int, x_mChain, x_mAnd, x_mOr, x_mNot, x_mAndV, x_mOrV, x_mNotV, x_mIte, x_aN, x_aC, x_mTup, x_mLst, x_mCall, x_add, x_addT, x_addL, x_sub, x_mul, x_div, x_mod, x_pow, x_shl, x_neg, x_lt, x_le, x_gt, x_ge, x_ltB, x_leB, x_gtB, x_geB, x_eq, x_ne, x_eqT, x_neT, x_eqL, x_neL, x_eqS, x_neS, x_eqB, x_neB, x_is, x_isN, x_isB, x_isNB, isNon_non, isNon_int, isNon_tup, isNon_lst, isNon_str, isNon_bl, x_inT, x_inL, x_ninT, x_ninL, x_ix0, x_ix1, x_ix2, x_ixl0, x_ixl1, x_ixl2, x_ixl3, oB_int, x_oN, x_oS, slB_lst, slB_tup, x_mSl, lB_lst, x_mSlF, x_mRev, rvB_lst, rvB_tup, x_mRevB, x_mCatF, x_mRepF, x_mulL, x_mulB, x_mulBT, x_lenL, x_lenT, x_abs, x_int, x_intB, x_max2, x_min2, x_tupL, x_tupT, x_lstL, x_lstT, x_sum, x_sumT, x_any, x_all, sqB_lst, sqB_tup, x_mSeqB, r1B_, x_mR1, r2B_, x_mR2, x_mEnumL, zpB_l, zpB_t, x_mZip, x_mZipB, zpX_ll, zpX_tt, zpX_tl, zpX_lt, x_rg1, x_rg2, x_mLRg, x_mTRg, x_mLc, wipe1, wipe2, wipe3, x_tTrue, x_fnM, x_pick, x_eqZl, x_neZl, x_eqZt, x_neZt, List.isEmpty_nil, List.isEmpty_cons, deq_ii, x_ite, sizeLine_is, true_and, and_true, forall_const, implies_true, not_true_eq_false, not_false_eq_true, false_implies, true_implies, Bool.true_eq_false, Bool.false_eq_true, decide_eq_true_eq, decide_true, decide_false, Bool.not_true, Bool.not_false, Bool.not_eq_true', decide_eq_false_iff_not, Decidable.not_not, x_flatF, x_mLc2, flat_bl, flat_int, flat_non, x_mR3, r3B_, cast_0, cast_1, cast_2, cast_3, Int.reduceEq, Int.reduceLT, Int.reduceLE, isi_int_non, isi_int_bl, isi_int_int, isi_int_str, isi_int_tup, isi_int_lst, isi_bool_non, isi_bool_bl, isi_bool_int, isi_bool_str, isi_bool_tup, isi_bool_lst, isi_tuple_non, isi_tuple_bl, isi_tuple_int, isi_tuple_str, isi_tuple_tup, isi_tuple_lst, isi_list_non, isi_list_bl, isi_list_int, isi_list_str, isi_list_tup, isi_list_lst, isi_str_non, isi_str_bl, isi_str_int, isi_str_str, isi_str_tup, isi_str_lst, isi_int_dct, isi_bool_dct, isi_tuple_dct, isi_list_dct, isi_str_dct, isi_dict_dct, isNon_dct, isi_q, sqB_q, len_q, isNon_q, q_ix0, q_ix1, q_eq, q_ne, List.length_cons, List.length_nil, Nat.reduceAdd, Nat.reduceLeDiff, Nat.reduceSub, Nat.zero_add, List.set_cons_zero, List.set_cons_succ, List.map_cons, List.map_nil, List.replicate_succ, List.replicate_zero, List.cons_append, List.nil_append, List.length_map]
    refine ⟨by omega, ?_⟩
    refine lc_mapE (fun x : Int × Int => .int x.1) (fun x => iD (l.filter fun y => decide (y.1 ≤ x.1) && decide (x.1 < y.2)).length) (fun x hx Qy Qn hy => ?_) ?_
    · simp only [x_sSq, x_sNx, x_sBk, x_sCt, x_sRet, x_sRetN, x_sIf, x_sAsg, x_sOwn, x_sPar, x_sPar3, x_sPx, x_sPx3, x_sPx4, x_xD, x_xF, x_sDrop, x_sFor, atE0, atES, frz_own, frz_d, frz_u, x_sFrz, slV_d, slV_own, slD_d, slO_own, x_sApp, exB_lst, x_sExt, x_sStx, x_gV, x_gD, x_gN, x_gT, x_gC, x_gE, x_mC, x_mL, x_m1, x_m2, x_mT, bB_bl, iB_int, x_mChain, x_mAnd, x_mOr, x_mNot, x_mAndV, x_mOrV, x_mNotV, x_mIte, x_aN, x_aC, x_mTup, x_mLst, x_mCall, x_add, x_addT, x_addL, x_sub, x_mul, x_div, x_mod, x_pow, x_shl, x_neg, x_lt, x_le, x_gt, x_ge, x_ltB, x_leB, x_gtB, x_geB, x_eq, x_ne, x_eqT, x_neT, x_eqL, x_neL, x_eqS, x_neS, x_eqB, x_neB, x_is, x_isN, x_isB, x_isNB, isNon_non, isNon_int, isNon_tup, isNon_lst, isNon_str, isNon_bl, x_inT, x_inL, x_ninT, x_ninL, x_ix0, x_ix1, x_ix2, x_ixl0, x_ixl1, x_ixl2, x_ixl3, oB_int, x_oN, x_oS, slB_lst, slB_tup, x_mSl, lB_lst, x_mSlF, x_mRev, rvB_lst, rvB_tup, x_mRevB, x_mCatF, x_mRepF, x_mulL, x_mulB, x_mulBT, x_lenL, x_lenT, x_abs, x_int, x_intB, x_max2, x_min2, x_tupL, x_tupT, x_lstL, x_lstT, x_sum, x_sumT, x_any, x_all, sqB_lst, sqB_tup, x_mSeqB, r1B_, x_mR1, r2B_, x_mR2, x_mEnumL, zpB_l, zpB_t, x_mZip, x_mZipB, zpX_ll, zpX_tt, zpX_tl, zpX_lt, x_rg1, x_rg2, x_mLRg, x_mTRg, x_mLc, wipe1, wipe2, wipe3, x_tTrue, x_fnM, x_pick, x_eqZl, x_neZl, x_eqZt, x_neZt, List.isEmpty_nil, List.isEmpty_cons, deq_ii, x_ite, sizeLine_is, true_and, and_true, forall_const, implies_true, not_true_eq_false, not_false_eq_true, false_implies, true_implies, Bool.true_eq_false, Bool.false_eq_true, decide_eq_true_eq, decide_true, decide_false, Bool.not_true, Bool.not_false, Bool.not_eq_true', decide_eq_false_iff_not, Decidable.not_not, x_flatF, x_mLc2, flat_bl, flat_int, flat_non, x_mR3, r3B_, cast_0, cast_1, cast_2, cast_3, Int.reduceEq, Int.reduceLT, Int.reduceLE, isi_int_non, isi_int_bl, isi_int_int, isi_int_str, isi_int_tup, isi_int_lst, isi_bool_non, isi_bool_bl, isi_bool_int, isi_bool_str, isi_bool_tup, isi_bool_lst, isi_tuple_non, isi_tuple_bl, isi_tuple_int, isi_tuple_str, isi_tuple_tup, isi_tuple_lst, isi_list_non, isi_list_bl, isi_list_int, isi_list_str, isi_list_tup, isi_list_lst, isi_str_non, isi_str_bl, isi_str_int, isi_str_str, isi_str_tup, isi_str_lst, isi_int_dct, isi_bool_dct, isi_tuple_dct, isi_list_dct, isi_str_dct, isi_dict_dct, isNon_dct, isi_q, sqB_q, len_q, isNon_q, q_ix0, q_ix1, q_eq, q_ne, List.length_cons, List.length_nil, Nat.reduceAdd, Nat.reduceLeDiff, Nat.reduceSub, Nat.zero_add, List.set_cons_zero, List.set_cons_succ, List.map_cons, List.map_nil, List.replicate_succ, List.replicate_zero, List.cons_append, List.nil_append, List.length_map]
      refine ⟨by omega, lc_filE fr (fun y => decide (y.1 ≤ x.1) && decide (x.1 < y.2)) (fun _ => .int 1) (fun y hy2 Qy2 Qn2 h1 h2 => ?_) ?_⟩
      · obtain ⟨a, b⟩ := y
        simp only [x_sSq, x_sNx, x_sBk, x_sCt, x_sRet, x_sRetN, x_sIf, x_sAsg, x_sOwn, x_sPar, x_sPar3, x_sPx, x_sPx3, x_sPx4, x_xD, x_xF, x_sDrop, x_sFor, atE0, atES, frz_own, frz_d, frz_u, x_sFrz, slV_d, slV_own, slD_d, slO_own, x_sApp, exB_lst, x_sExt, x_sStx, x_gV, x_gD, x_gN, x_gT, x_gC, x_gE, x_mC, x_mL, x_m1, x_m2, x_mT, bB_bl, iB_int, x_mChain, x_mAnd, x_mOr, x_mNot, x_mAndV, x_mOrV, x_mNotV, x_mIte, x_aN, x_aC, x_mTup, x_mLst, x_mCall, x_add, x_addT, x_addL, x_sub, x_mul, x_div, x_mod, x_pow, x_shl, x_neg, x_lt, x_le, x_gt, x_ge, x_ltB, x_leB, x_gtB, x_geB, x_eq, x_ne, x_eqT, x_neT, x_eqL, x_neL, x_eqS, x_neS, x_eqB, x_neB, x_is, x_isN, x_isB, x_isNB, isNon_non, isNon_int, isNon_tup, isNon_lst, isNon_str, isNon_bl, x_inT, x_inL, x_ninT, x_ninL, x_ix0, x_ix1, x_ix2, x_ixl0, x_ixl1, x_ixl2, x_ixl3, oB_int, x_oN, x_oS, slB_lst, slB_tup, x_mSl, lB_lst, x_mSlF, x_mRev, rvB_lst, rvB_tup, x_mRevB, x_mCatF, x_mRepF, x_mulL, x_mulB, x_mulBT, x_lenL, x_lenT, x_abs, x_int, x_intB, x_max2, x_min2, x_tupL, x_tupT, x_lstL, x_lstT, x_sum, x_sumT, x_any, x_all, sqB_lst, sqB_tup, x_mSeqB, r1B_, x_mR1, r2B_, x_mR2, x_mEnumL, zpB_l, zpB_t, x_mZip, x_mZipB, zpX_ll, zpX_tt, zpX_tl, zpX_lt, x_rg1, x_rg2, x_mLRg, x_mTRg, x_mLc, wipe1, wipe2, wipe3, x_tTrue, x_fnM, x_pick, x_eqZl, x_neZl, x_eqZt, x_neZt, List.isEmpty_nil, List.isEmpty_cons, deq_ii, x_ite, sizeLine_is, true_and, and_true, forall_const, implies_true, not_true_eq_false, not_false_eq_true, false_implies, true_implies, Bool.true_eq_false, Bool.false_eq_true, decide_eq_true_eq, decide_true, decide_false, Bool.not_true, Bool.not_false, Bool.not_eq_true', decide_eq_false_iff_not, Decidable.not_not, x_flatF, x_mLc2, flat_bl, flat_int, flat_non, x_mR3, r3B_, cast_0, cast_1, cast_2, cast_3, Int.reduceEq, Int.reduceLT, Int.reduceLE, isi_int_non, isi_int_bl, isi_int_int, isi_int_str, isi_int_tup, isi_int_lst, isi_bool_non, isi_bool_bl, isi_bool_int, isi_bool_str, isi_bool_tup, isi_bool_lst, isi_tuple_non, isi_tuple_bl, isi_tuple_int, isi_tuple_str, isi_tuple_tup, isi_tuple_lst, isi_list_non, isi_list_bl, isi_list_int, isi_list_str, isi_list_tup, isi_list_lst, isi_str_non, isi_str_bl, isi_str_int, isi_str_str, isi_str_tup, isi_str_lst, isi_int_dct, isi_bool_dct, isi_tuple_dct, isi_list_dct, isi_str_dct, isi_dict_dct, isNon_dct, isi_q, sqB_q, len_q, isNon_q, q_ix0, q_ix1, q_eq, q_ne, List.length_cons, List.length_nil, Nat.reduceAdd, Nat.reduceLeDiff, Nat.reduceSub, Nat.zero_add, List.set_cons_zero, List.set_cons_succ, List.map_cons, List.map_nil, List.replicate_succ, List.replicate_zero, List.cons_append, List.nil_append, fr]
        refine ⟨fun h3 => ?_, fun h3 => h2 ?_⟩
        · (try simp only [x_sSq, x_sNx, x_sBk, x_sCt, x_sRet, x_sRetN, x_sIf, x_sAsg, x_sOwn, x_sPar, x_sPar3, x_sPx, x_sPx3, x_sPx4, x_xD, x_xF, x_sDrop, x_sFor, atE0, atES, frz_own, frz_d, frz_u, x_sFrz, slV_d, slV_own, slD_d, slO_own, x_sApp, exB_lst, x_sExt, x_sStx, x_gV, x_gD, x_gN, x_gT, x_gC, x_gE, x_mC, x_mL, x_m1, x_m2, x_mT, bB_bl, iB_int, x_mChain, x_mAnd, x_mOr, x_mNot, x_mAndV, x_mOrV, x_mNotV, x_mIte, x_aN, x_aC, x_mTup, x_mLst, x_mCall, x_add, x_addT, x_addL, x_sub, x_mul, x_div, x_mod, x_pow, x_shl, x_neg, x_lt, x_le, x_gt, x_ge, x_ltB, x_leB, x_gtB, x_geB, x_eq, x_ne, x_eqT, x_neT, x_eqL, x_neL, x_eqS, x_neS, x_eqB, x_neB, x_is, x_isN, x_isB, x_isNB, isNon_non, isNon_int, isNon_tup, isNon_lst, isNon_str, isNon_bl, x_inT, x_inL, x_ninT, x_ninL, x_ix0, x_ix1, x_ix2, x_ixl0, x_ixl1, x_ixl2, x_ixl3, oB_int, x_oN, x_oS, slB_lst, slB_tup, x_mSl, lB_lst, x_mSlF, x_mRev, rvB_lst, rvB_tup, x_mRevB, x_mCatF, x_mRepF, x_mulL, x_mulB, x_mulBT, x_lenL, x_lenT, x_abs, x_int, x_intB, x_max2, x_min2, x_tupL, x_tupT, x_lstL, x_lstT, x_sum, x_sumT, x_any, x_all, sqB_lst, sqB_tup, x_mSeqB, r1B_, x_mR1, r2B_, x_mR2, x_mEnumL, zpB_l, zpB_t, x_mZip, x_mZipB, zpX_ll, zpX_tt, zpX_tl, zpX_lt, x_rg1, x_rg2, x_mLRg, x_mTRg, x_mLc, wipe1, wipe2, wipe3, x_tTrue, x_fnM, x_pick, x_eqZl, x_neZl, x_eqZt, x_neZt, List.isEmpty_nil, List.isEmpty_cons, deq_ii, x_ite, sizeLine_is, true_and, and_true, forall_const, implies_true, not_true_eq_false, not_false_eq_true, false_implies, true_implies, Bool.true_eq_false, Bool.false_eq_true, decide_eq_true_eq, decide_true, decide_false, Bool.not_true, Bool.not_false, Bool.not_eq_true', decide_eq_false_iff_not, Decidable.not_not, x_flatF, x_mLc2, flat_bl, flat_int, flat_non, x_mR3, r3B_, cast_0, cast_1, cast_2, cast_3, Int.reduceEq, Int.reduceLT, Int.reduceLE, isi_int_non, isi_int_bl, isi_int_int, isi_int_str, isi_int_tup, isi_int_lst, isi_bool_non, isi_bool_bl, isi_bool_int, isi_bool_str, isi_bool_tup, isi_bool_lst, isi_tuple_non, isi_tuple_bl, isi_tuple_int, isi_tuple_str, isi_tuple_tup, isi_tuple_lst, isi_list_non, isi_list_bl, isi_list_int, isi_list_str, isi_list_tup, isi_list_lst, isi_str_non, isi_str_bl, isi_str_int, isi_str_str, isi_str_tup, isi_str_lst, isi_int_dct, isi_bool_dct, isi_tuple_dct, isi_list_dct, isi_str_dct, isi_dict_dct, isNon_dct, isi_q, sqB_q, len_q, isNon_q, q_ix0, q_ix1, q_eq, q_ne, List.length_cons, List.length_nil, Nat.reduceAdd, Nat.reduceLeDiff, Nat.reduceSub, Nat.zero_add, List.set_cons_zero, List.set_cons_succ, List.map_cons, List.map_nil, List.replicate_succ, List.replicate_zero, List.cons_append, List.nil_append])
          exact ⟨fun h4 => h1 (by rw [decide_eq_true h3, decide_eq_true h4]; rfl), fun h4 => h2 (by rw [decide_eq_false h4, Bool.and_false])⟩
        · rw [decide_eq_false h3, Bool.false_and]
      · simp only [x_sSq, x_sNx, x_sBk, x_sCt, x_sRet, x_sRetN, x_sIf, x_sAsg, x_sOwn, x_sPar, x_sPar3, x_sPx, x_sPx3, x_sPx4, x_xD, x_xF, x_sDrop, x_sFor, atE0, atES, frz_own, frz_d, frz_u, x_sFrz, slV_d, slV_own, slD_d, slO_own, x_sApp, exB_lst, x_sExt, x_sStx, x_gV, x_gD, x_gN, x_gT, x_gC, x_gE, x_mC, x_mL, x_m1, x_m2, x_mT, bB_bl, iB_int, x_mChain, x_mAnd, x_mOr, x_mNot, x_mAndV, x_mOrV, x_mNotV, x_mIte, x_aN, x_aC, x_mTup, x_mLst, x_mCall, x_add, x_addT, x_addL, x_sub, x_mul, x_div, x_mod, x_pow, x_shl, x_neg, x_lt, x_le, x_gt, x_ge, x_ltB, x_leB, x_gtB, x_geB, x_eq, x_ne, x_eqT, x_neT, x_eqL, x_neL, x_eqS, x_neS, x_eqB, x_neB, x_is, x_isN, x_isB, x_isNB, isNon_non, isNon_int, isNon_tup, isNon_lst, isNon_str, isNon_bl, x_inT, x_inL, x_ninT, x_ninL, x_ix0, x_ix1, x_ix2, x_ixl0, x_ixl1, x_ixl2, x_ixl3, oB_int, x_oN, x_oS, slB_lst, slB_tup, x_mSl, lB_lst, x_mSlF, x_mRev, rvB_lst, rvB_tup, x_mRevB, x_mCatF, x_mRepF, x_mulL, x_mulB, x_mulBT, x_lenL, x_lenT, x_abs, x_int, x_intB, x_max2, x_min2, x_tupL, x_tupT, x_lstL, x_lstT, x_sum, x_sumT, x_any, x_all, sqB_lst, sqB_tup, x_mSeqB, r1B_, x_mR1, r2B_, x_mR2, x_mEnumL, zpB_l, zpB_t, x_mZip, x_mZipB, zpX_ll, zpX_tt, zpX_tl, zpX_lt, x_rg1, x_rg2, x_mLRg, x_mTRg, x_mLc, wipe1, wipe2, wipe3, x_tTrue, x_fnM, x_pick, x_eqZl, x_neZl, x_eqZt, x_neZt, List.isEmpty_nil, List.isEmpty_cons, deq_ii, x_ite, sizeLine_is, true_and, and_true, forall_const, implies_true, not_true_eq_false, not_false_eq_true, false_implies, true_implies, Bool.true_eq_false, Bool.false_eq_true, decide_eq_true_eq, decide_true, decide_false, Bool.not_true, Bool.not_false, Bool.not_eq_true', decide_eq_false_iff_not, Decidable.not_not, x_flatF, x_mLc2, flat_bl, flat_int, flat_non, x_mR3, r3B_, cast_0, cast_1, cast_2, cast_3, Int.reduceEq, Int.reduceLT, Int.reduceLE, isi_int_non, isi_int_bl, isi_int_int, isi_int_str, isi_int_tup, isi_int_lst, isi_bool_non, isi_bool_bl, isi_bool_int, isi_bool_str, isi_bool_tup, isi_bool_lst, isi_tuple_non, isi_tuple_bl, isi_tuple_int, isi_tuple_str, isi_tuple_tup, isi_tuple_lst, isi_list_non, isi_list_bl, isi_list_int, isi_list_str, isi_list_tup, isi_list_lst, isi_str_non, isi_str_bl, isi_str_int, isi_str_str, isi_str_tup, isi_str_lst, isi_int_dct, isi_bool_dct, isi_tuple_dct, isi_list_dct, isi_str_dct, isi_dict_dct, isNon_dct, isi_q, sqB_q, len_q, isNon_q, q_ix0, q_ix1, q_eq, q_ne, List.length_cons, List.length_nil, Nat.reduceAdd, Nat.reduceLeDiff, Nat.reduceSub, Nat.zero_add, List.set_cons_zero, List.set_cons_succ, List.map_cons, List.map_nil, List.replicate_succ, List.replicate_zero, List.cons_append, List.nil_append, List.length_map]
        exact hy
    · simp only [x_sSq, x_sNx, x_sBk, x_sCt, x_sRet, x_sRetN, x_sIf, x_sAsg, x_sOwn, x_sPar, x_sPar3, x_sPx, x_sPx3, x_sPx4, x_xD, x_xF, x_sDrop, x_sFor, atE0, atES, frz_own, frz_d, frz_u, x_sFrz, slV_d, slV_own, slD_d, slO_own, x_sApp, exB_lst, x_sExt, x_sStx, x_gV, x_gD, x_gN, x_gT, x_gC, x_gE, x_mC, x_mL, x_m1, x_m2, x_mT, bB_bl, iB_int, x_mChain, x_mAnd, x_mOr, x_mNot, x_mAndV, x_mOrV, x_mNotV, x_mIte, x_aN, x_aC, x_mTup, x_mLst, x_mCall, x_add, x_addT, x_addL, x_sub, x_mul, x_div, x_mod, x_pow, x_shl, x_neg, x_lt, x_le, x_gt, x_ge, x_ltB, x_leB, x_gtB, x_geB, x_eq, x_ne, x_eqT, x_neT, x_eqL, x_neL, x_eqS, x_neS, x_eqB, x_neB, x_is, x_isN, x_isB, x_isNB, isNon_non, isNon_int, isNon_tup, isNon_lst, isNon_str, isNon_bl, x_inT, x_inL, x_ninT, x_ninL, x_ix0, x_ix1, x_ix2, x_ixl0, x_ixl1, x_ixl2, x_ixl3, oB_int, x_oN, x_oS, slB_lst, slB_tup, x_mSl, lB_lst, x_mSlF, x_mRev, rvB_lst, rvB_tup, x_mRevB, x_mCatF, x_mRepF, x_mulL, x_mulB, x_mulBT, x_lenL, x_lenT, x_abs, x_int, x_intB, x_max2, x_min2, x_tupL, x_tupT, x_lstL, x_lstT, x_sum, x_sumT, x_any, x_all, sqB_lst, sqB_tup, x_mSeqB, r1B_, x_mR1, r2B_, x_mR2, x_mEnumL, zpB_l, zpB_t, x_mZip, x_mZipB, zpX_ll, zpX_tt, zpX_tl, zpX_lt, x_rg1, x_rg2, x_mLRg, x_mTRg, x_mLc, wipe1, wipe2, wipe3, x_tTrue, x_fnM, x_pick, x_eqZl, x_neZl, x_eqZt, x_neZt, List.isEmpty_nil, List.isEmpty_cons, deq_ii, x_ite, sizeLine_is, true_and, and_true, forall_const, implies_true, not_true_eq_false, not_false_eq_true, false_implies, true_implies, Bool.true_eq_false, Bool.false_eq_true, decide_eq_true_eq, decide_true, decide_false, Bool.not_true, Bool.not_false, Bool.not_eq_true', decide_eq_false_iff_not, Decidable.not_not, x_flatF, x_mLc2, flat_bl, flat_int, flat_non, x_mR3, r3B_, cast_0, cast_1, cast_2, cast_3, Int.reduceEq, Int.reduceLT, Int.reduceLE, isi_int_non, isi_int_bl, isi_int_int, isi_int_str, isi_int_tup, isi_int_lst, isi_bool_non, isi_bool_bl, isi_bool_int, isi_bool_str, isi_bool_tup, isi_bool_lst, isi_tuple_non, isi_tuple_bl, isi_tuple_int, isi_tuple_str, isi_tuple_tup, isi_tuple_lst, isi_list_non, isi_list_bl, isi_list_int, isi_list_str, isi_list_tup, isi_list_lst, isi_str_non, isi_str_bl, isi_str_int, isi_str_str, isi_str_tup, isi_str_lst, isi_int_dct, isi_bool_dct, isi_tuple_dct, isi_list_dct, isi_str_dct, isi_dict_dct, isNon_dct, isi_q, sqB_q, len_q, isNon_q, q_ix0, q_ix1, q_eq, q_ne, List.length_cons, List.length_nil, Nat.reduceAdd, Nat.reduceLeDiff, Nat.reduceSub, Nat.zero_add, List.set_cons_zero, List.set_cons_succ, List.map_cons, List.map_nil, List.replicate_succ, List.replicate_zero, List.cons_append, List.nil_append, List.length_map]
      refine ⟨by omega, ?_⟩
      have e : D.int 0 :: (l.map fun x => iD (l.filter fun y => decide (y.1 ≤ x.1) && decide (x.1 < y.2)).length) = (0 :: l.map fun x => (l.filter fun y => decide (y.1 ≤ x.1) && decide (x.1 < y.2)).length).map iD := by
        rw [List.map_cons, List.map_map]
        rfl
      rw [e]
      exact maxNI (List.cons_ne_nil _ _) h
theorem sp_lonceT {l : List (Int × Int)} {Q : D → Prop} (hl : l.length ≤ 1000) (h : Q (iD (lon l))) : f__law_at_once [.tup (l.map fr)] Q := by
  simp only [x_sSq, x_sNx, x_sBk, x_sCt, x_sRet, x_sRetN, x_sIf, x_sAsg, x_sOwn, x_sPar, x_sPar3, x_sPx, x_sPx3, x_sPx4, x_xD, x_xF, x_sDrop, x_sFor, atE0, atES, frz_own, frz_d, frz_u, x_sFrz, slV_d, slV_own, slD_d, slO_own, x_sApp, exB_lst, x_sExt, x_sStx, x_gV, x_gD, x_gN, x_gT, x_gC, x_gE, x_mC, x_mL, x_m1, x_m2, x_mT, bB_bl, iB_int, x_mChain, x_mAnd, x_mOr, x_mNot, x_mAndV, x_mOrV, x_mNotV, x_mIte, x_aN, x_aC, x_mTup, x_mLst, x_mCall, x_add, x_addT, x_addL, x_sub, x_mul, x_div, x_mod, x_pow, x_shl, x_neg, x_lt, x_le, x_gt, x_ge, x_ltB, x_leB, x_gtB, x_geB, x_eq, x_ne, x_eqT, x_neT, x_eqL, x_neL, x_eqS, x_neS, x_eqB, x_neB, x_is, x_isN, x_isB, x_isNB, isNon_non, isNon_int, isNon_tup, isNon_lst, isNon_str, isNon_bl, x_inT, x_inL, x_ninT, x_ninL, x_ix0, x_ix1, x_ix2, x_ixl0, x_ixl1, x_ixl2, x_ixl3, oB_int, x_oN, x_oS, slB_lst, slB_tup, x_mSl, lB_lst, x_mSlF, x_mRev, rvB_lst, rvB_tup, x_mRevB, x_mCatF, x_mRepF, x_mulL, x_mulB, x_mulBT, x_lenL, x_lenT, x_abs, x_int, x_intB, x_max2, x_min2, x_tupL, x_tupT, x_lstL, x_lstT, x_sum, x_sumT, x_any, x_all, sqB_lst, sqB_tup, x_mSeqB, r1B_, x_mR1, r2B_, x_mR2, x_mEnumL, zpB_l, zpB_t, x_mZip, x_mZipB, zpX_ll, zpX_tt, zpX_tl, zpX_lt, x_rg1, x_rg2, x_mLRg, x_mTRg, x_mLc, wipe1, wipe2, wipe3, x_tTrue, x_fnM, x_pick, x_eqZl, x_neZl, x_eqZt, x_neZt, List.isEmpty_nil, List.isEmpty_cons, deq_ii, x_ite, sizeLine_is, true_and, and_true, forall_const, implies_true, not_true_eq_false, not_false_eq_true, false_implies, true_implies, Bool.true_eq_false, Bool.false_eq_true, decide_eq_true_eq, decide_true, decide_false, Bool.not_true, Bool.not_false, Bool.not_eq_true', decide_eq_false_iff_not, Decidable.not_not, x_flatF, x_mLc2, flat_bl, flat_int, flat_non, x_mR3, r3B_, cast_0, cast_1, cast_2, cast_3, Int.reduceEq, Int.reduceLT, Int.reduceLE, isi_int_non, isi_int_bl, isi_int_int, isi_int_str, isi_int_tup, isi_int_lst, isi_bool_non, isi_bool_bl, isi_bool_int, isi_bool_str, isi_bool_tup, isi_bool_lst, isi_tuple_non, isi_tuple_bl, isi_tuple_int, isi_tuple_str, isi_tuple_tup, isi_tuple_lst, isi_list_non, isi_list_bl, isi_list_int, isi_list_str, isi_list_tup, isi_list_lst, isi_str_non, isi_str_bl, isi_str_int, isi_str_str, isi_str_tup, isi_str_lst, isi_int_dct, isi_bool_dct, isi_tuple_dct, isi_list_dct, isi_str_dct, isi_dict_dct, isNon_dct, isi_q, sqB_q, len_q, isNon_q, q_ix0, q_ix1, q_eq, q_ne, List.length_cons, List.length_nil, Nat.reduceAdd, Nat.reduceLeDiff, Nat.reduceSub, Nat.zero_add, List.set_cons_zero, List.set_cons_succ, List.map_cons, List.map_nil, List.replicate_succ, List.replicate_zero, List.cons_append, List.nil_append, f__law_at_once, b__law_at_once, List.length_map]
  refine ⟨by omega, lc_mapE fr (fun x => .int x.1) (fun x hx Qy Qn hy => ?_) ?_⟩
  · simp only [x_sSq, x_sNx, x_sBk, x_sCt, x_sRet, x_sRetN, x_sIf, x_sAsg, x_sOwn, x_sPar, x_sPar3, x_sPx, x_sPx3, x_sPx4, x_xD, x_xF, x_sDrop, x_sFor, atE0, atES, frz_own, frz_d, frz_u, x_sFrz, slV_d, slV_own, slD_d, slO_own, x_sApp, exB_lst, x_sExt, x_sStx, x_gV, x_gD, x_gN, x_gT, x_gC, x_gE, x_mC, x_mL, x_m1, x_m2, x_mT, bB_bl, iB_int, x_mChain, x_mAnd, x_mOr, x_mNot, x_mAndV, x_mOrV, x_mNotV, x_mIte, x_aN, x_aC, x_mTup, x_mLst, x_mCall, x_add, x_addT, x_addL, x_sub, x_mul, x_div, x_mod, x_pow, x_shl, x_neg, x_lt, x_le, x_gt, x_ge, x_ltB, x_leB, x_gtB, x_geB, x_eq, x_ne, x_eqT, x_neT, x_eqL, x_neL, x_eqS, x_neS, x_eqB, x_neB, x_is, x_isN, x_isB, x_isNB, isNon_non, isNon_int, isNon_tup, isNon_lst, isNon_str, isNon_bl, x_inT, x_inL, x_ninT, x_ninL, x_ix0, x_ix1, x_ix2, x_ixl0, x_ixl1, x_ixl2, x_ixl3, oB_int, x_oN, x_oS, slB_lst, slB_tup, x_mSl, lB_lst, x_mSlF, x_mRev, rvB_lst, rvB_tup, x_mRevB, x_mCatF, x_mRepF, x_mulL, x_mulB, x_mulBT, x_lenL, x_lenT, x_abs, x_int, x_intB, x_max2, x_min2, x_tupL, x_tupT, x_lstL, x_lstT, x_sum, x_sumT, x_any, x_all, sqB_lst, sqB_tup, x_mSeqB, r1B_, x_mR1, r2B_, x_mR2, x_mEnumL, zpB_l, zpB_t, x_mZip, x_mZipB, zpX_ll, zpX_tt, zpX_tl, zpX_lt, x_rg1, x_rg2, x_mLRg, x_mTRg, x_mLc, wipe1, wipe2, wipe3, x_tTrue, x_fnM, x_pick, x_eqZl, x_neZl, x_eqZt, x_neZt, List.isEmpty_nil, List.isEmpty_cons, deq_ii, x_ite, sizeLine_is, true_and, and_true, forall_const, implies_true, not_true_eq_false, not_false_eq_true, false_implies, true_implies, Bool.true_eq_false, Bool.false_eq_true, decide_eq_true_eq, decide_true, decide_false, Bool.not_true, Bool.not_false, Bool.not_eq_true', decide_eq_false_iff_not, Decidable.not_not, x_flatF, x_mLc2, flat_bl, flat_int, flat_non, x_mR3, r3B_, cast_0, cast_1, cast_2, cast_3, Int.reduceEq, Int.reduceLT, Int.reduceLE, isi_int_non, isi_int_bl, isi_int_int, isi_int_str, isi_int_tup, isi_int_lst, isi_bool_non, isi_bool_bl, isi_bool_int, isi_bool_str, isi_bool_tup, isi_bool_lst, isi_tuple_non, isi_tuple_bl, isi_tuple_int, isi_tuple_str, isi_tuple_tup, isi_tuple_lst, isi_list_non, isi_list_bl, isi_list_int, isi_list_str, isi_list_tup, isi_list_lst, isi_str_non, isi_str_bl, isi_str_int, isi_str_str, isi_str_tup, isi_str_lst, isi_int_dct, isi_bool_dct, isi_tuple_dct, isi_list_dct, isi_str_dct, isi_dict_dct, isNon_dct, isi_q, sqB_q, len_q, isNon_q, q_ix0, q_ix1, q_eq, q_ne, List.length_cons, List.length_nil, Nat.reduceAdd, Nat.reduceLeDiff, Nat.reduceSub, Nat.zero_add, List.set_cons_zero, List.set_cons_succ, List.map_cons, List.map_nil, List.replicate_succ, List.replicate_zero, List.cons_append, List.nil_append, fr]
    exact hy
  · simp only [x_sSq, x_sNx, x_sBk, x_sCt, x_sRet, x_sRetN, x_sIf, x_sAsg, x_sOwn, x_sPar, x_sPar3, x_sPx, x_sPx3, x_sPx4, x_xD, x_xF, x_sDrop, x_sFor, atE0, atES, frz_own, frz_d, frz_u, x_sFrz, slV_d, slV_own, slD_d, slO_own, x_sApp, exB_lst, x_sExt, x_sStx, x_gV, x_gD, x_gN, x_gT, x_gC, x_gE, x_mC, x_mL, x_m1, x_m2, x_mT, bB_bl, iB_int, x_mChain, x_mAnd, x_mOr, x_mNot, x_mAndV, x_mOrV, x_mNotV, x_mIte, x_aN, x_aC, x_mTup, x_mLst, x_mCall, x_add, x_addT, x_addL, x_sub, x_mul, x_div, x_mod, x_pow, x_shl, x_neg, x_lt, x_le, x_gt, x_ge, x_ltB, x_leB, x_gtB, x_geB, x_eq, x_ne, x_eqT, x_neT, x_eqL, x_neL, x_eqS, x_neS, x_eqB, x_neB, x_is, x_isN, x_isB, x_isNB, isNon_non, isNon_int, isNon_tup, isNon_lst, isNon_str, isNon_bl, x_inT, x_inL, x_ninT, x_ninL, x_ix0, x_ix1, x_ix2, x_ixl0, x_ixl1, x_ixl2, x_ixl3, oB_int, x_oN, x_oS, slB_lst, slB_tup, x_mSl, lB_lst, x_mSlF, x_mRev, rvB_lst, rvB_tup, x_mRevB, x_mCatF, x_mRepF, x_mulL, x_mulB, x_mulBT, x_lenL, x_lenT, x_abs, x_int, x_intB, x_max2, x_min2, x_tupL, x_tupT, x_lstL, x_lstT, x_sum, x_sumT, x_any, x_all, sqB_lst, sqB_tup, x_mSeqB, r1B_, x_mR1, r2B_, x_mR2, x_mEnumL, zpB_l, zpB_t, x_mZip, x_mZipB, zpX_ll, zpX_tt, zpX_tl, zpX_lt, x_rg1, x_rg2, x_mLRg, x_mTRg, x_mLc, wipe1, wipe2, wipe3, x_tTrue, x_fnM, x_pick, x_eqZl, x_neZl, x_eqZt, x_neZt, List.isEmpty_nil, List.isEmpty_cons, deq_ii, x_ite, sizeLine_is, true_and, and_true, forall_const, implies_true, not_true_eq_false, not_false_eq_true, false_implies, true_implies, Bool.true_eq_false, Bool.false_eq_true, decide_eq_true_eq, decide_true, decide_false, Bool.not_true, Bool.not_false, Bool.not_eq_true', decide_eq_false_iff_not, Decidable.not_not, x_flatF, x_mLc2, flat_bl, flat_int, flat_non, x_mR3, r3B_, cast_0, cast_1, cast_2, cast_3, Int.reduceEq, Int.reduceLT, Int.reduceLE, isi_int_non, isi_int_bl, isi_int_int, isi_int_str, isi_int_tup, isi_int_lst, isi_bool_non, isi_bool_bl, isi_bool_int, isi_bool_str, isi_bool_tup, isi_bool_lst, isi_tuple_non, isi_tuple_bl, isi_tuple_int, isi_tuple_str, isi_tuple_tup, isi_tuple_lst, isi_list_non, isi_list_bl, isi_list_int, isi_list_str, isi_list_tup, isi_list_lst, isi_str_non, isi_str_bl, isi_str_int, isi_str_str, isi_str_tup, isi_str_lst, isi_int_dct, isi_bool_dct, isi_tuple_dct, isi_list_dct, isi_str_dct, isi_dict_dct, isNon_dct, isi_q, sqB_q, len_q, isNon_q, q_ix0, q_ix1, q_eq, q_ne, List.length_cons, List.length_nil, Nat.reduceAdd, Nat.reduceLeDiff, Nat.reduceSub, Nat.zero_add, List.set_cons_zero, List.set_cons_succ, List.map_cons, List.map_nil, List.replicate_succ, List.replicate_zero, List.cons_append, List.nil_append, List.length_map]
    refine ⟨by omega, ?_⟩
    refine lc_mapE (fun x : Int × Int => .int x.1) (fun x => iD (l.filter fun y => decide (y.1 ≤ x.1) && decide (x.1 < y.2)).length) (fun x hx Qy Qn hy => ?_) ?_
    · simp only [x_sSq, x_sNx, x_sBk, x_sCt, x_sRet, x_sRetN, x_sIf, x_sAsg, x_sOwn, x_sPar, x_sPar3, x_sPx, x_sPx3, x_sPx4, x_xD, x_xF, x_sDrop, x_sFor, atE0, atES, frz_own, frz_d, frz_u, x_sFrz, slV_d, slV_own, slD_d, slO_own, x_sApp, exB_lst, x_sExt, x_sStx, x_gV, x_gD, x_gN, x_gT, x_gC, x_gE, x_mC, x_mL, x_m1, x_m2, x_mT, bB_bl, iB_int, x_mChain, x_mAnd, x_mOr, x_mNot, x_mAndV, x_mOrV, x_mNotV, x_mIte, x_aN, x_aC, x_mTup, x_mLst, x_mCall, x_add, x_addT, x_addL, x_sub, x_mul, x_div, x_mod, x_pow, x_shl, x_neg, x_lt, x_le, x_gt, x_ge, x_ltB, x_leB, x_gtB, x_geB, x_eq, x_ne, x_eqT, x_neT, x_eqL, x_neL, x_eqS, x_neS, x_eqB, x_neB, x_is, x_isN, x_isB, x_isNB, isNon_non, isNon_int, isNon_tup, isNon_lst, isNon_str, isNon_bl, x_inT, x_inL, x_ninT, x_ninL, x_ix0, x_ix1, x_ix2, x_ixl0, x_ixl1, x_ixl2, x_ixl3, oB_int, x_oN, x_oS, slB_lst, slB_tup, x_mSl, lB_lst, x_mSlF, x_mRev, rvB_lst, rvB_tup, x_mRevB, x_mCatF, x_mRepF, x_mulL, x_mulB, x_mulBT, x_lenL, x_lenT, x_abs, x_int, x_intB, x_max2, x_min2, x_tupL, x_tupT, x_lstL, x_lstT, x_sum, x_sumT, x_any, x_all, sqB_lst, sqB_tup, x_mSeqB, r1B_, x_mR1, r2B_, x_mR2, x_mEnumL, zpB_l, zpB_t, x_mZip, x_mZipB, zpX_ll, zpX_tt, zpX_tl, zpX_lt, x_rg1, x_rg2, x_mLRg, x_mTRg, x_mLc, wipe1, wipe2, wipe3, x_tTrue, x_fnM, x_pick, x_eqZl, x_neZl, x_eqZt, x_neZt, List.isEmpty_nil, List.isEmpty_cons, deq_ii, x_ite, sizeLine_is, true_and, and_true, forall_const, implies_true, not_true_eq_false, not_false_eq_true, false_implies, true_implies, Bool.true_eq_false, Bool.false_eq_true, decide_eq_true_eq, decide_true, decide_false, Bool.not_true, Bool.not_false, Bool.not_eq_true', decide_eq_false_iff_not, Decidable.not_not, x_flatF, x_mLc2, flat_bl, flat_int, flat_non, x_mR3, r3B_, cast_0, cast_1, cast_2, cast_3, Int.reduceEq, Int.reduceLT, Int.reduceLE, isi_int_non, isi_int_bl, isi_int_int, isi_int_str, isi_int_tup, isi_int_lst, isi_bool_non, isi_bool_bl, isi_bool_int, isi_bool_str, isi_bool_tup, isi_bool_lst, isi_tuple_non, isi_tuple_bl, isi_tuple_int, isi_tuple_str, isi_tuple_tup, isi_tuple_lst, isi_list_non, isi_list_bl, isi_list_int, isi_list_str, isi_list_tup, isi_list_lst, isi_str_non, isi_str_bl, isi_str_int, isi_str_str, isi_str_tup, isi_str_lst, isi_int_dct, isi_bool_dct, isi_tuple_dct, isi_list_dct, isi_str_dct, isi_dict_dct, isNon_dct, isi_q, sqB_q, len_q, isNon_q, q_ix0, q_ix1, q_eq, q_ne, List.length_cons, List.length_nil, Nat.reduceAdd, Nat.reduceLeDiff, Nat.reduceSub, Nat.zero_add, List.set_cons_zero, List.set_cons_succ, List.map_cons, List.map_nil, List.replicate_succ, List.replicate_zero, List.cons_append, List.nil_append, List.length_map]
      refine ⟨by omega, lc_filE fr (fun y => decide (y.1 ≤ x.1) && decide (x.1 < y.2)) (fun _ => .int 1) (fun y hy2 Qy2 Qn2 h1 h2 => ?_) ?_⟩
      · obtain ⟨a, b⟩ := y
        simp only [x_sSq, x_sNx, x_sBk, x_sCt, x_sRet, x_sRetN, x_sIf, x_sAsg, x_sOwn, x_sPar, x_sPar3, x_sPx, x_sPx3, x_sPx4, x_xD, x_xF, x_sDrop, x_sFor, atE0, atES, frz_own, frz_d, frz_u, x_sFrz, slV_d, slV_own, slD_d, slO_own, x_sApp, exB_lst, x_sExt, x_sStx, x_gV, x_gD, x_gN, x_gT, x_gC, x_gE, x_mC, x_mL, x_m1, x_m2, x_mT, bB_bl, iB_int, x_mChain, x_mAnd, x_mOr, x_mNot, x_mAndV, x_mOrV, x_mNotV, x_mIte, x_aN, x_aC, x_mTup, x_mLst, x_mCall, x_add, x_addT, x_addL, x_sub, x_mul, x_div, x_mod, x_pow, x_shl, x_neg, x_lt, x_le, x_gt, x_ge, x_ltB, x_leB, x_gtB, x_geB, x_eq, x_ne, x_eqT, x_neT, x_eqL, x_neL, x_eqS, x_neS, x_eqB, x_neB, x_is, x_isN, x_isB, x_isNB, isNon_non, isNon_int, isNon_tup, isNon_lst, isNon_str, isNon_bl, x_inT, x_inL, x_ninT, x_ninL, x_ix0, x_ix1, x_ix2, x_ixl0, x_ixl1, x_ixl2, x_ixl3, oB_int, x_oN, x_oS, slB_lst, slB_tup, x_mSl, lB_lst, x_mSlF, x_mRev, rvB_lst, rvB_tup, x_mRevB, x_mCatF, x_mRepF, x_mulL, x_mulB, x_mulBT, x_lenL, x_lenT, x_abs, x_int, x_intB, x_max2, x_min2, x_tupL, x_tupT, x_lstL, x_lstT, x_sum, x_sumT, x_any, x_all, sqB_lst, sqB_tup, x_mSeqB, r1B_, x_mR1, r2B_, x_mR2, x_mEnumL, zpB_l, zpB_t, x_mZip, x_mZipB, zpX_ll, zpX_tt, zpX_tl, zpX_lt, x_rg1, x_rg2, x_mLRg, x_mTRg, x_mLc, wipe1, wipe2, wipe3, x_tTrue, x_fnM, x_pick, x_eqZl, x_neZl, x_eqZt, x_neZt, List.isEmpty_nil, List.isEmpty_cons, deq_ii, x_ite, sizeLine_is, true_and, and_true, forall_const, implies_true, not_true_eq_false, not_false_eq_true, false_implies, true_implies, Bool.true_eq_false, Bool.false_eq_true, decide_eq_true_eq, decide_true, decide_false, Bool.not_true, Bool.not_false, Bool.not_eq_true', decide_eq_false_iff_not, Decidable.not_not, x_flatF, x_mLc2, flat_bl, flat_int, flat_non, x_mR3, r3B_, cast_0, cast_1, cast_2, cast_3, Int.reduceEq, Int.reduceLT, Int.reduceLE, isi_int_non, isi_int_bl, isi_int_int, isi_int_str, isi_int_tup, isi_int_lst, isi_bool_non, isi_bool_bl, isi_bool_int, isi_bool_str, isi_bool_tup, isi_bool_lst, isi_tuple_non, isi_tuple_bl, isi_tuple_int, isi_tuple_str, isi_tuple_tup, isi_tuple_lst, isi_list_non, isi_list_bl, isi_list_int, isi_list_str, isi_list_tup, isi_list_lst, isi_str_non, isi_str_bl, isi_str_int, isi_str_str, isi_str_tup, isi_str_lst, isi_int_dct, isi_bool_dct, isi_tuple_dct, isi_list_dct, isi_str_dct, isi_dict_dct, isNon_dct, isi_q, sqB_q, len_q, isNon_q, q_ix0, q_ix1, q_eq, q_ne, List.length_cons, List.length_nil, Nat.reduceAdd, Nat.reduceLeDiff, Nat.reduceSub, Nat.zero_add, List.set_cons_zero, List.set_cons_succ, List.map_cons, List.map_nil, List.replicate_succ, List.replicate_zero, List.cons_append, List.nil_append, fr]
        refine ⟨fun h3 => ?_, fun h3 => h2 ?_⟩
        · (try simp only [x_sSq, x_sNx, x_sBk, x_sCt, x_sRet, x_sRetN, x_sIf, x_sAsg, x_sOwn, x_sPar, x_sPar3, x_sPx, x_sPx3, x_sPx4, x_xD, x_xF, x_sDrop, x_sFor, atE0, atES, frz_own, frz_d, frz_u, x_sFrz, slV_d, slV_own, slD_d, slO_own, x_sApp, exB_lst, x_sExt, x_sStx, x_gV, x_gD, x_gN, x_gT, x_gC, x_gE, x_mC, x_mL, x_m1, x_m2, x_mT, bB_bl, iB_int, x_mChain, x_mAnd, x_mOr, x_mNot, x_mAndV, x_mOrV, x_mNotV, x_mIte, x_aN, x_aC, x_mTup, x_mLst, x_mCall, x_add, x_addT, x_addL, x_sub, x_mul, x_div, x_mod, x_pow, x_shl, x_neg, x_lt, x_le, x_gt, x_ge, x_ltB, x_leB, x_gtB, x_geB, x_eq, x_ne, x_eqT, x_neT, x_eqL, x_neL, x_eqS, x_neS, x_eqB, x_neB, x_is, x_isN, x_isB, x_isNB, isNon_non, isNon_int, isNon_tup, isNon_lst, isNon_str, isNon_bl, x_inT, x_inL, x_ninT, x_ninL, x_ix0, x_ix1, x_ix2, x_ixl0, x_ixl1, x_ixl2, x_ixl3, oB_int, x_oN, x_oS, slB_lst, slB_tup, x_mSl, lB_lst, x_mSlF, x_mRev, rvB_lst, rvB_tup, x_mRevB, x_mCatF, x_mRepF, x_mulL, x_mulB, x_mulBT, x_lenL, x_lenT, x_abs, x_int, x_intB, x_max2, x_min2, x_tupL, x_tupT, x_lstL, x_lstT, x_sum, x_sumT, x_any, x_all, sqB_lst, sqB_tup, x_mSeqB, r1B_, x_mR1, r2B_, x_mR2, x_mEnumL, zpB_l, zpB_t, x_mZip, x_mZipB, zpX_ll, zpX_tt, zpX_tl, zpX_lt, x_rg1, x_rg2, x_mLRg, x_mTRg, x_mLc, wipe1, wipe2, wipe3, x_tTrue, x_fnM, x_pick, x_eqZl, x_neZl, x_eqZt, x_neZt, List.isEmpty_nil, List.isEmpty_cons, deq_ii, x_ite, sizeLine_is, true_and, and_true, forall_const, implies_true, not_true_eq_false, not_false_eq_true, false_implies, true_implies, Bool.true_eq_false, Bool.false_eq_true, decide_eq_true_eq, decide_true, decide_false, Bool.not_true, Bool.not_false, Bool.not_eq_true', decide_eq_false_iff_not, Decidable.not_not, x_flatF, x_mLc2, flat_bl, flat_int, flat_non, x_mR3, r3B_, cast_0, cast_1, cast_2, cast_3, Int.reduceEq, Int.reduceLT, Int.reduceLE, isi_int_non, isi_int_bl, isi_int_int, isi_int_str, isi_int_tup, isi_int_lst, isi_bool_non, isi_bool_bl, isi_bool_int, isi_bool_str, isi_bool_tup, isi_bool_lst, isi_tuple_non, isi_tuple_bl, isi_tuple_int, isi_tuple_str, isi_tuple_tup, isi_tuple_lst, isi_list_non, isi_list_bl, isi_list_int, isi_list_str, isi_list_tup, isi_list_lst, isi_str_non, isi_str_bl, isi_str_int, isi_str_str, isi_str_tup, isi_str_lst, isi_int_dct, isi_bool_dct, isi_tuple_dct, isi_list_dct, isi_str_dct, isi_dict_dct, isNon_dct, isi_q, sqB_q, len_q, isNon_q, q_ix0, q_ix1, q_eq, q_ne, List.length_cons, List.length_nil, Nat.reduceAdd, Nat.reduceLeDiff, Nat.reduceSub, Nat.zero_add, List.set_cons_zero, List.set_cons_succ, List.map_cons, List.map_nil, List.replicate_succ, List.replicate_zero, List.cons_append, List.nil_append])
          exact ⟨fun h4 => h1 (by rw [decide_eq_true h3, decide_eq_true h4]; rfl), fun h4 => h2 (by rw [decide_eq_false h4, Bool.and_false])⟩
        · rw [decide_eq_false h3, Bool.false_and]
      · simp only [x_sSq, x_sNx, x_sBk, x_sCt, x_sRet, x_sRetN, x_sIf, x_sAsg, x_sOwn, x_sPar, x_sPar3, x_sPx, x_sPx3, x_sPx4, x_xD, x_xF, x_sDrop, x_sFor, atE0, atES, frz_own, frz_d, frz_u, x_sFrz, slV_d, slV_own, slD_d, slO_own, x_sApp, exB_lst, x_sExt, x_sStx, x_gV, x_gD, x_gN, x_gT, x_gC, x_gE, x_mC, x_mL, x_m1, x_m2, x_mT, bB_bl, iB_int, x_mChain, x_mAnd, x_mOr, x_mNot, x_mAndV, x_mOrV, x_mNotV, x_mIte, x_aN, x_aC, x_mTup, x_mLst, x_mCall, x_add, x_addT, x_addL, x_sub, x_mul, x_div, x_mod, x_pow, x_shl, x_neg, x_lt, x_le, x_gt, x_ge, x_ltB, x_leB, x_gtB, x_geB, x_eq, x_ne, x_eqT, x_neT, x_eqL, x_neL, x_eqS, x_neS, x_eqB, x_neB, x_is, x_isN, x_isB, x_isNB, isNon_non, isNon_int, isNon_tup, isNon_lst, isNon_str, isNon_bl, x_inT, x_inL, x_ninT, x_ninL, x_ix0, x_ix1, x_ix2, x_ixl0, x_ixl1, x_ixl2, x_ixl3, oB_int, x_oN, x_oS, slB_lst, slB_tup, x_mSl, lB_lst, x_mSlF, x_mRev, rvB_lst, rvB_tup, x_mRevB, x_mCatF, x_mRepF, x_mulL, x_mulB, x_mulBT, x_lenL, x_lenT, x_abs, x_int, x_intB, x_max2, x_min2, x_tupL, x_tupT, x_lstL, x_lstT, x_sum, x_sumT, x_any, x_all, sqB_lst, sqB_tup, x_mSeqB, r1B_, x_mR1, r2B_, x_mR2, x_mEnumL, zpB_l, zpB_t, x_mZip, x_mZipB, zpX_ll, zpX_tt, zpX_tl, zpX_lt, x_rg1, x_rg2, x_mLRg, x_mTRg, x_mLc, wipe1, wipe2, wipe3, x_tTrue, x_fnM, x_pick, x_eqZl, x_neZl, x_eqZt, x_neZt, List.isEmpty_nil, List.isEmpty_cons, deq_ii, x_ite, sizeLine_is, true_and, and_true, forall_const, implies_true, not_true_eq_false, not_false_eq_true, false_implies, true_implies, Bool.true_eq_false, Bool.false_eq_true, decide_eq_true_eq, decide_true, decide_false, Bool.not_true, Bool.not_false, Bool.not_eq_true', decide_eq_false_iff_not, Decidable.not_not, x_flatF, x_mLc2, flat_bl, flat_int, flat_non, x_mR3, r3B_, cast_0, cast_1, cast_2, cast_3, Int.reduceEq, Int.reduceLT, Int.reduceLE, isi_int_non, isi_int_bl, isi_int_int, isi_int_str, isi_int_tup, isi_int_lst, isi_bool_non, isi_bool_bl, isi_bool_int, isi_bool_str, isi_bool_tup, isi_bool_lst, isi_tuple_non, isi_tuple_bl, isi_tuple_int, isi_tuple_str, isi_tuple_tup, isi_tuple_lst, isi_list_non, isi_list_bl, isi_list_int, isi_list_str, isi_list_tup, isi_list_lst, isi_str_non, isi_str_bl, isi_str_int, isi_str_str, isi_str_tup, isi_str_lst, isi_int_dct, isi_bool_dct, isi_tuple_dct, isi_list_dct, isi_str_dct, isi_dict_dct, isNon_dct, isi_q, sqB_q, len_q, isNon_q, q_ix0, q_ix1, q_eq, q_ne, List.length_cons, List.length_nil, Nat.reduceAdd, Nat.reduceLeDiff, Nat.reduceSub, Nat.zero_add, List.set_cons_zero, List.set_cons_succ, List.map_cons, List.map_nil, List.replicate_succ, List.replicate_zero, List.cons_append, List.nil_append, List.length_map]
        exact hy
    · simp only [x_sSq, x_sNx, x_sBk, x_sCt, x_sRet, x_sRetN, x_sIf, x_sAsg, x_sOwn, x_sPar, x_sPar3, x_sPx, x_sPx3, x_sPx4, x_xD, x_xF, x_sDrop, x_sFor, atE0, atES, frz_own, frz_d, frz_u, x_sFrz, slV_d, slV_own, slD_d, slO_own, x_sApp, exB_lst, x_sExt, x_sStx, x_gV, x_gD, x_gN, x_gT, x_gC, x_gE, x_mC, x_mL, x_m1, x_m2, x_mT, bB_bl, iB_int, x_mChain, x_mAnd, x_mOr, x_mNot, x_mAndV, x_mOrV, x_mNotV, x_mIte, x_aN, x_aC, x_mTup, x_mLst, x_mCall, x_add, x_addT, x_addL, x_sub, x_mul, x_div, x_mod, x_pow, x_shl, x_neg, x_lt, x_le, x_gt, x_ge, x_ltB, x_leB, x_gtB, x_geB, x_eq, x_ne, x_eqT, x_neT, x_eqL, x_neL, x_eqS, x_neS, x_eqB, x_neB, x_is, x_isN, x_isB, x_isNB, isNon_non, isNon_int, isNon_tup, isNon_lst, isNon_str, isNon_bl, x_inT, x_inL, x_ninT, x_ninL, x_ix0, x_ix1, x_ix2, x_ixl0, x_ixl1, x_ixl2, x_ixl3, oB_int, x_oN, x_oS, slB_lst, slB_tup, x_mSl, lB_lst, x_mSlF, x_mRev, rvB_lst, rvB_tup, x_mRevB, x_mCatF, x_mRepF, x_mulL, x_mulB, x_mulBT, x_lenL, x_lenT, x_abs, x_int, x_intB, x_max2, x_min2, x_tupL, x_tupT, x_lstL, x_lstT, x_sum, x_sumT, x_any, x_all, sqB_lst, sqB_tup, x_mSeqB, r1B_, x_mR1, r2B_, x_mR2, x_mEnumL, zpB_l, zpB_t, x_mZip, x_mZipB, zpX_ll, zpX_tt, zpX_tl, zpX_lt, x_rg1, x_rg2, x_mLRg, x_mTRg, x_mLc, wipe1, wipe2, wipe3, x_tTrue, x_fnM, x_pick, x_eqZl, x_neZl, x_eqZt, x_neZt, List.isEmpty_nil, List.isEmpty_cons, deq_ii, x_ite, sizeLine_is, true_and, and_true, forall_const, implies_true, not_true_eq_false, not_false_eq_true, false_implies, true_implies, Bool.true_eq_false, Bool.false_eq_true, decide_eq_true_eq, decide_true, decide_false, Bool.not_true, Bool.not_false, Bool.not_eq_true', decide_eq_false_iff_not, Decidable.not_not, x_flatF, x_mLc2, flat_bl, flat_int, flat_non, x_mR3, r3B_, cast_0, cast_1, cast_2, cast_3, Int.reduceEq, Int.reduceLT, Int.reduceLE, isi_int_non, isi_int_bl, isi_int_int, isi_int_str, isi_int_tup, isi_int_lst, isi_bool_non, isi_bool_bl, isi_bool_int, isi_bool_str, isi_bool_tup, isi_bool_lst, isi_tuple_non, isi_tuple_bl, isi_tuple_int, isi_tuple_str, isi_tuple_tup, isi_tuple_lst, isi_list_non, isi_list_bl, isi_list_int, isi_list_str, isi_list_tup, isi_list_lst, isi_str_non, isi_str_bl, isi_str_int, isi_str_str, isi_str_tup, isi_str_lst, isi_int_dct, isi_bool_dct, isi_tuple_dct, isi_list_dct, isi_str_dct, isi_dict_dct, isNon_dct, isi_q, sqB_q, len_q, isNon_q, q_ix0, q_ix1, q_eq, q_ne, List.length_cons, List.length_nil, Nat.reduceAdd, Nat.reduceLeDiff, Nat.reduceSub, Nat.zero_add, List.set_cons_zero, List.set_cons_succ, List.map_cons, List.map_nil, List.replicate_succ, List.replicate_zero, List.cons_append, List.nil_append, List.length_map]
      refine ⟨by omega, ?_⟩
      have e : D.int 0 :: (l.map fun x => iD (l.filter fun y => decide (y.1 ≤ x.1) && decide (x.1 < y.2)).length) = (0 :: l.map fun x => (l.filter fun y => decide (y.1 ≤ x.1) && decide (x.1 < y.2)).length).map iD := by
        rw [List.map_cons, List.map_map]
        rfl
      rw [e]
      exact maxNI (List.cons_ne_nil _ _) h
theorem lon_lot {sp : List (Int × Int)} {k n : Nat} {c : Nat → Bool} : lon (((List.range n).filter c).map fun i => sp.getD i (0, 0)) ≤ k ↔ ∀ i, i < n → c i = true → cnt n (fun j => c j && (decide (Be sp j ≤ Be sp i) && decide (Be sp i < En' sp j))) ≤ k := by
  rw [lon_le]
  have e : ∀ i, ((((List.range n).filter c).map fun i => sp.getD i (0, 0)).filter fun y => decide (y.1 ≤ (sp.getD i (0, 0)).1) && decide ((sp.getD i (0, 0)).1 < y.2)).length = cnt n (fun j => c j && (decide (Be sp j ≤ Be sp i) && decide (Be sp i < En' sp j))) := fun i => by
    rw [List.filter_map, List.length_map, List.filter_filter, ← cnt_len]
    congr 1
    exact List.filter_congr fun j _ => Bool.and_comm _ _
  constructor
  · intro h i hi hc
    rw [← e]
    exact h _ (List.mem_map.mpr ⟨i, List.mem_filter.mpr ⟨List.mem_range.mpr hi, hc⟩, rfl⟩)
  · intro h x hx
    obtain ⟨i, hi, rfl⟩ := List.mem_map.mp hx
    obtain ⟨hi, hc⟩ := List.mem_filter.mp hi
    rw [e]
    exact h i (List.mem_range.mp hi) hc
theorem fit_lon {sp : List (Int × Int)} {k : Nat} {c : Nat → Bool} (U : Up sp) : lon (((List.range sp.length).filter c).map fun i => sp.getD i (0, 0)) ≤ k ↔ Fit sp k c := by
  rw [lon_lot]
  constructor
  · intro h i hi
    have : ∀ m, m ≤ i + 1 → cnt m (fun j => c j && decide (Be sp i < En' sp j)) ≤ k := by
      intro m
      induction m with
      | zero => intro _; exact Nat.zero_le _
      | succ m ih =>
        intro hm
        cases hcm : c m with
        | false =>
          rw [cnt_succ, hcm, Bool.false_and, if_neg (by decide)]
          exact ih (by omega)
        | true =>
          refine Nat.le_trans (Nat.le_trans (cnt_mono fun j hj e => ?_) (cnt_up (show m + 1 ≤ sp.length by omega) _)) (h m (by omega) hcm)
          have h1 := U.up j m (by omega) (by omega)
          have h2 := U.up m i (by omega) hi
          simp only [Bool.and_eq_true, decide_eq_true_eq] at e ⊢
          exact ⟨e.1, h1, by omega⟩
    exact this _ (Nat.le_refl _)
  · intro h i hi hci
    have : ∀ m, i < m → m ≤ sp.length → cnt m (fun j => c j && (decide (Be sp j ≤ Be sp i) && decide (Be sp i < En' sp j))) ≤ k := by
      intro m
      induction m with
      | zero => intro h0; omega
      | succ m ih =>
        intro hm hml
        have hmi := U.up i m (by omega) (by omega)
        by_cases hb : Be sp m ≤ Be sp i
        · refine Nat.le_trans (cnt_mono fun j hj e => ?_) (h m (by omega))
          simp only [Bool.and_eq_true, decide_eq_true_eq] at e ⊢
          exact ⟨e.1, by omega⟩
        · have hne : i < m := by
            rcases Nat.lt_or_eq_of_le (Nat.lt_succ_iff.mp hm) with e | e
            · exact e
            · rw [← e] at hb
              exact absurd (Int.le_refl _) hb
          rw [cnt_succ, decide_eq_false hb, Bool.false_and, Bool.and_false, if_neg (by decide)]
          exact ih hne (by omega)
    exact this _ hi (Nat.le_refl _)
end LW

namespace LW
open PySem DL
/-! ### both counts agree -/
section
variable {sp : List (Int × Int)} {k : Nat} {c : Nat → Bool}
theorem onc_up (l : List (Int × Int)) (x : Int × Int) : (onc l).2 ≤ (onc (l ++ [x])).2 ∧ ((onc l).1.filter fun e => decide (x.1 < e)).length + 1 ≤ (onc (l ++ [x])).2 := by
  rw [onc_snoc]
  dsimp only
  rw [List.length_append, List.length_singleton]
  omega
/-- what the sequential count shows -/
theorem onc_back (U : Up sp) : ∀ i, i ≤ sp.length →
    (∀ j, j < i → c j = true → cnt (j + 1) (fun m => c m && decide (Be sp j < En' sp m)) ≤ (onc (((List.range i).filter c).map fun i => sp.getD i (0, 0))).2) ∧ ∀ a, (∀ m, m < i → Be sp m ≤ a) → (onc (((List.range i).filter c).map fun i => sp.getD i (0, 0))).1.filter (fun e => decide (a < e)) = (((List.range i).filter c).map (En' sp)).filter fun e => decide (a < e)
  | 0, _ => ⟨fun j hj => by omega, fun a _ => rfl⟩
  | i + 1, hi => by
    obtain ⟨h1, h2⟩ := onc_back U i (by omega)
    rw [List.range_succ, List.filter_append]
    cases hci : c i with
    | false =>
      rw [List.filter_cons_of_neg (by rw [hci]; decide), List.filter_nil, List.append_nil]
      refine ⟨fun j hj hc => h1 j ?_ hc, fun a ha => h2 a fun m hm => ha m (by omega)⟩
      by_cases e : j = i
      · rw [e, hci] at hc
        cases hc
      · omega
    | true =>
      rw [List.filter_cons_of_pos hci, List.filter_nil, List.map_append, List.map_singleton]
      have h3 := h2 (Be sp i) fun m hm => U.up m i (by omega) (by omega)
      have hu := onc_up (((List.range i).filter c).map fun i => sp.getD i (0, 0)) (sp.getD i (0, 0))
      have e1 : (sp.getD i (0, 0)).1 = Be sp i := rfl
      have e2 : (sp.getD i (0, 0)).2 = En' sp i := rfl
      rw [e1, h3] at hu
      have e4 : ((((List.range i).filter c).map (En' sp)).filter fun e => decide (Be sp i < e)).length = cnt i (fun j => c j && decide (Be sp i < En' sp j)) := by
        rw [List.filter_map, List.length_map, List.filter_filter, ← cnt_len]
        congr 1
        exact List.filter_congr fun j _ => Bool.and_comm _ _
      rw [e4] at hu
      refine ⟨fun j hj hc => ?_, fun a ha => ?_⟩
      · by_cases e : j = i
        · subst e
          rw [cnt_succ]
          split <;> omega
        · exact Nat.le_trans (h1 j (by omega) hc) hu.1
      · rw [onc_snoc, e1, e2, h3]
        dsimp only
        rw [List.map_append, List.filter_append, List.filter_append, List.filter_filter]
        congr 1
        refine List.filter_congr fun e _ => ?_
        have := ha i (by omega)
        rw [Bool.eq_iff_iff]
        simp only [Bool.and_eq_true, decide_eq_true_eq]
        omega
theorem fit_of (U : Up sp) (h : ∀ i, i < sp.length → c i = true → cnt (i + 1) (fun j => c j && decide (Be sp i < En' sp j)) ≤ k) : Fit sp k c := fun i hi => by
  have : ∀ m, m ≤ i + 1 → cnt m (fun j => c j && decide (Be sp i < En' sp j)) ≤ k := by
    intro m
    induction m with
    | zero => intro _; exact Nat.zero_le _
    | succ m ih =>
      intro hm
      cases hcm : c m with
      | false =>
        rw [cnt_succ, hcm, Bool.false_and, if_neg (by decide)]
        exact ih (by omega)
      | true =>
        refine Nat.le_trans (cnt_mono fun j hj e => ?_) (h m (by omega) hcm)
        have h2 := U.up m i (by omega) hi
        simp only [Bool.and_eq_true, decide_eq_true_eq] at e ⊢
        exact ⟨e.1, by omega⟩
  exact this _ (Nat.le_refl _)
theorem fit_onc (U : Up sp) : (onc (((List.range sp.length).filter c).map fun i => sp.getD i (0, 0))).2 ≤ k ↔ Fit sp k c :=
  ⟨fun h => fit_of U fun i hi hc => Nat.le_trans ((onc_back U sp.length (Nat.le_refl _)).1 i hi hc) h, fun h => (onc_fit U h sp.length (Nat.le_refl _)).1⟩
theorem onc_lon (U : Up sp) (c : Nat → Bool) : (onc (((List.range sp.length).filter c).map fun i => sp.getD i (0, 0))).2 = lon (((List.range sp.length).filter c).map fun i => sp.getD i (0, 0)) :=
  Nat.le_antisymm ((fit_onc U).mpr ((fit_lon U).mp (Nat.le_refl _))) ((fit_lon U).mpr ((fit_onc U).mp (Nat.le_refl _)))
theorem all_map (sp : List (Int × Int)) : ((List.range sp.length).filter fun _ => true).map (fun i => sp.getD i (0, 0)) = sp := by
  rw [List.filter_eq_self.mpr fun _ _ => rfl, List.range_eq_range']
  have := map_getD (fun x : Int × Int => x) sp (0, 0)
  rw [List.map_id'] at this
  exact this
theorem onc_all (U : Up sp) : (onc sp).2 = lon sp := by
  have := onc_lon U fun _ => true
  rw [all_map] at this
  exact this
end
theorem len_sub : ∀ (xs l : List Nat), xs.Nodup → (∀ x ∈ xs, x ∈ l) → xs.length ≤ l.length
  | [], l, _, _ => Nat.zero_le _
  | x :: xs, l, hn, h => by
    have h1 := h x List.mem_cons_self
    have h2 := List.nodup_cons.mp hn
    have := len_sub xs (l.erase x) h2.2 fun y hy => (List.mem_erase_of_ne (fun e => h2.1 (by rw [← e]; exact hy))).mpr (h y (List.mem_cons_of_mem _ hy))
    rw [List.length_erase_of_mem h1] at this
    have := List.length_pos_of_mem h1
    rw [List.length_cons]
    omega
/-! ### rooms -/
/-- the least number that is not there -/
def mex (n : Nat) (l : List Nat) : Nat := ((List.range n).filter fun r => !decide (r ∈ l)).headD 0
theorem mex_eq {n r : Nat} {l : List Nat} (hr : r < n) (h1 : r ∉ l) (h2 : ∀ s, s < r → s ∈ l) : ∃ t, ((List.range n).filter fun r => !decide (r ∈ l)) = r :: t := by
  have e : List.range n = List.range r ++ r :: List.range' (r + 1) (n - r - 1) := by
    rw [List.range_eq_range', List.range_eq_range']
    have : n = r + (1 + (n - r - 1)) := by omega
    conv => lhs; rw [this]
    rw [← List.range'_append_1, Nat.zero_add, Nat.add_comm 1, List.range'_succ]
  rw [e, List.filter_append]
  have e2 : (List.range r).filter (fun r => !decide (r ∈ l)) = [] := List.filter_eq_nil_iff.mpr fun s hs => by
    have := h2 s (List.mem_range.mp hs)
    simp [this]
  rw [e2, List.nil_append, List.filter_cons_of_pos (by simp [h1])]
  exact ⟨_, rfl⟩
/-- the rooms of spans by the law -/
def tak (sp : List (Int × Int)) (rs : List Nat) (i : Nat) : List Nat := ((List.range i).filter fun j => decide (Be sp i < En' sp j)).map fun j => rs.getD j 0
def rms (sp : List (Int × Int)) : Nat → List Nat
  | 0 => []
  | i + 1 => rms sp i ++ [mex sp.length (tak sp (rms sp i) i)]
theorem rms_len (sp : List (Int × Int)) : ∀ i, (rms sp i).length = i
  | 0 => rfl
  | i + 1 => by rw [rms, List.length_append, rms_len sp i]; rfl
/-- the rooms behind i spans: so many, the end of the last span of each -/
structure Rm (sp : List (Int × Int)) (i : Nat) (es : List Int) : Prop where
  len : es.length ≤ i
  lt : ∀ j, j < i → (rms sp i).getD j 0 < es.length
  on : ∀ r, r < es.length → ∃ j, j < i ∧ (rms sp i).getD j 0 = r
  e : ∀ r (h : r < es.length) a, (∀ m, m < i → Be sp m ≤ a) → (a < es[r] ↔ ∃ j, j < i ∧ (rms sp i).getD j 0 = r ∧ a < En' sp j)
  apart : ∀ j j', j < j' → j' < i → (rms sp i).getD j 0 = (rms sp i).getD j' 0 → En' sp j ≤ Be sp j'
  full : es.length = 0 ∨ ∃ m, m < i ∧ es.length ≤ cnt (m + 1) fun j => decide (Be sp m < En' sp j)
theorem rms_get {sp : List (Int × Int)} {i j : Nat} (h : j < i) : (rms sp (i + 1)).getD j 0 = (rms sp i).getD j 0 := by
  rw [rms, List.getD_eq_getElem?_getD, List.getD_eq_getElem?_getD, List.getElem?_append_left (by rw [rms_len]; exact h)]
theorem rms_last {sp : List (Int × Int)} {i : Nat} : (rms sp (i + 1)).getD i 0 = mex sp.length (tak sp (rms sp i) i) := by
  rw [rms, List.getD_eq_getElem?_getD, List.getElem?_append_right (by rw [rms_len]; exact Nat.le_refl _), rms_len, Nat.sub_self]
  rfl
theorem mem_tak {sp : List (Int × Int)} {i r : Nat} : r ∈ tak sp (rms sp i) i ↔ ∃ j, j < i ∧ (rms sp i).getD j 0 = r ∧ Be sp i < En' sp j := by
  unfold tak
  rw [List.mem_map]
  constructor
  · rintro ⟨j, hj, e⟩
    obtain ⟨h1, h2⟩ := List.mem_filter.mp hj
    exact ⟨j, List.mem_range.mp h1, e, of_decide_eq_true h2⟩
  · rintro ⟨j, h1, h2, h3⟩
    exact ⟨j, List.mem_filter.mpr ⟨List.mem_range.mpr h1, decide_eq_true h3⟩, h2⟩
theorem Rm.zero (sp : List (Int × Int)) : Rm sp 0 [] := ⟨Nat.le_refl _, fun j h => by omega, fun r h => absurd h (Nat.not_lt_zero _), fun r h => absurd h (Nat.not_lt_zero _), fun j j' _ h => by omega, .inl rfl⟩
/-- the room that the program takes -/
def takes (es : List Int) (a : Int) : Nat := ((List.range es.length).filter fun r => decide (es.getD r 0 ≤ a)).headD es.length
theorem getD_lt {es : List Int} {r : Nat} (h : r < es.length) : es.getD r 0 = es[r] := by
  rw [List.getD_eq_getElem?_getD, List.getElem?_eq_getElem h]
  rfl
theorem head_range (p : Nat → Bool) : ∀ n, (((List.range n).filter p).headD n ≤ n) ∧ (((List.range n).filter p).headD n < n → p (((List.range n).filter p).headD n) = true) ∧ ∀ s, s < ((List.range n).filter p).headD n → p s = false
  | 0 => ⟨Nat.le_refl _, fun h => absurd h (Nat.not_lt_zero _), fun s h => absurd h (Nat.not_lt_zero _)⟩
  | n + 1 => by
    obtain ⟨h1, h2, h3⟩ := head_range p n
    rw [List.range_succ, List.filter_append]
    cases hl : (List.range n).filter p with
    | nil =>
      rw [hl] at h1 h2 h3
      have h3 : ∀ s, s < n → p s = false := h3
      cases hp : p n with
      | true =>
        rw [List.filter_cons_of_pos hp, List.filter_nil, List.nil_append]
        exact ⟨Nat.le_succ _, fun _ => hp, h3⟩
      | false =>
        rw [List.filter_cons_of_neg (by rw [hp]; decide), List.filter_nil, List.nil_append]
        refine ⟨Nat.le_refl _, fun h => absurd h (Nat.lt_irrefl _), fun s hs => ?_⟩
        have hs : s < n + 1 := hs
        by_cases e : s = n
        · rw [e]
          exact hp
        · exact h3 s (by omega)
    | cons x xs =>
      rw [hl] at h1 h2 h3
      have h1 : x ≤ n := h1
      have hx : x ∈ (List.range n).filter p := by rw [hl]; exact List.mem_cons_self
      obtain ⟨hx1, hx2⟩ := List.mem_filter.mp hx
      have hx1 := List.mem_range.mp hx1
      exact ⟨by show x ≤ n + 1; omega, fun _ => hx2, h3⟩
section
variable {sp : List (Int × Int)} {i : Nat} {es : List Int}
theorem Rm.step (U : Up sp) (R : Rm sp i es) (hi : i < sp.length) :
    mex sp.length (tak sp (rms sp i) i) = takes es (Be sp i) ∧ (∃ t, ((List.range sp.length).filter fun r => !decide (r ∈ tak sp (rms sp i) i)) = takes es (Be sp i) :: t) ∧ takes es (Be sp i) ≤ es.length ∧
    Rm sp (i + 1) (if takes es (Be sp i) < es.length then es.set (takes es (Be sp i)) (En' sp i) else es ++ [En' sp i]) := by
  obtain ⟨t1, t2, t3⟩ := head_range (fun r => decide (es.getD r 0 ≤ Be sp i)) es.length
  have et : ((List.range es.length).filter fun r => decide (es.getD r 0 ≤ Be sp i)).headD es.length = takes es (Be sp i) := rfl
  rw [et] at t1 t2 t3
  have hall : ∀ m, m < i → Be sp m ≤ Be sp i := fun m hm => U.up m i (by omega) hi
  have lenI := R.len
  have n1 : takes es (Be sp i) ∉ tak sp (rms sp i) i := fun h => by
    have hj := mem_tak.mp h
    have hlt : takes es (Be sp i) < es.length := by
      obtain ⟨j, h1, h2, _⟩ := hj
      rw [← h2]
      exact R.lt j h1
    have h4 := (R.e _ hlt (Be sp i) hall).mpr hj
    have h5 := of_decide_eq_true (t2 hlt)
    rw [getD_lt hlt] at h5
    omega
  have n2 : ∀ s, s < takes es (Be sp i) → s ∈ tak sp (rms sp i) i := fun s hs => by
    have h5 := of_decide_eq_false (t3 s hs)
    rw [getD_lt (by omega)] at h5
    exact mem_tak.mpr ((R.e s (by omega) (Be sp i) hall).mp (by omega))
  have hm := mex_eq (n := sp.length) (show takes es (Be sp i) < sp.length by omega) n1 n2
  have hmex : mex sp.length (tak sp (rms sp i) i) = takes es (Be sp i) := by
    obtain ⟨t, e⟩ := hm
    unfold mex
    rw [e]
    rfl
  refine ⟨hmex, hm, t1, ?_⟩
  have hlast : (rms sp (i + 1)).getD i 0 = takes es (Be sp i) := by rw [rms_last, hmex]
  generalize takes es (Be sp i) = q at *
  have apart : ∀ j j', j < j' → j' < i + 1 → (rms sp (i + 1)).getD j 0 = (rms sp (i + 1)).getD j' 0 → En' sp j ≤ Be sp j' := fun j j' h1 h2 h3 => by
    by_cases e : j' = i
    · subst e
      rw [hlast, rms_get h1] at h3
      by_cases h : Be sp j' < En' sp j
      · exact absurd (mem_tak.mpr ⟨j, h1, h3, h⟩) n1
      · omega
    · rw [rms_get (by omega), rms_get (by omega)] at h3
      exact R.apart j j' h1 (by omega) h3
  have ub := U.lt i hi
  by_cases hq : q < es.length
  · rw [if_pos hq]
    refine ⟨by rw [List.length_set]; omega, fun j hj => ?_, fun r hr => ?_, fun r hr a ha => ?_, apart, ?_⟩
    · rw [List.length_set]
      by_cases e : j = i
      · rw [e, hlast]
        exact hq
      · rw [rms_get (by omega)]
        exact R.lt j (by omega)
    · rw [List.length_set] at hr
      obtain ⟨j, h1, h2⟩ := R.on r hr
      exact ⟨j, by omega, by rw [rms_get h1]; exact h2⟩
    · rw [List.length_set] at hr
      rw [List.getElem_set]
      by_cases e : q = r
      · rw [if_pos e]
        constructor
        · intro h
          exact ⟨i, by omega, by rw [hlast, e], h⟩
        · rintro ⟨j, h1, h2, h3⟩
          by_cases ej : j = i
          · rw [← ej]
            exact h3
          · rw [rms_get (by omega)] at h2
            have := ha i (by omega)
            exact absurd (mem_tak.mpr ⟨j, by omega, h2.trans e.symm, by omega⟩) n1
      · rw [if_neg e, R.e r hr a fun m hm => ha m (by omega)]
        constructor
        · rintro ⟨j, h1, h2, h3⟩
          exact ⟨j, by omega, by rw [rms_get h1]; exact h2, h3⟩
        · rintro ⟨j, h1, h2, h3⟩
          by_cases ej : j = i
          · rw [ej, hlast] at h2
            exact absurd h2 e
          · rw [rms_get (by omega)] at h2
            exact ⟨j, by omega, h2, h3⟩
    · rw [List.length_set]
      rcases R.full with h | ⟨m, h1, h2⟩
      · exact .inl h
      · exact .inr ⟨m, by omega, h2⟩
  · rw [if_neg hq]
    have hq : q = es.length := by omega
    refine ⟨by rw [List.length_append, List.length_singleton]; omega, fun j hj => ?_, fun r hr => ?_, fun r hr a ha => ?_, apart, .inr ⟨i, by omega, ?_⟩⟩
    · rw [List.length_append, List.length_singleton]
      by_cases e : j = i
      · rw [e, hlast]
        omega
      · rw [rms_get (by omega)]
        have := R.lt j (by omega)
        omega
    · rw [List.length_append, List.length_singleton] at hr
      by_cases e : r = q
      · exact ⟨i, by omega, by rw [hlast, e]⟩
      · obtain ⟨j, h1, h2⟩ := R.on r (by omega)
        exact ⟨j, by omega, by rw [rms_get h1]; exact h2⟩
    · rw [List.length_append, List.length_singleton] at hr
      rw [List.getElem_append]
      by_cases e : r < es.length
      · rw [dif_pos e, R.e r e a fun m hm => ha m (by omega)]
        constructor
        · rintro ⟨j, h1, h2, h3⟩
          exact ⟨j, by omega, by rw [rms_get h1]; exact h2, h3⟩
        · rintro ⟨j, h1, h2, h3⟩
          by_cases ej : j = i
          · rw [ej, hlast] at h2
            omega
          · rw [rms_get (by omega)] at h2
            exact ⟨j, by omega, h2, h3⟩
      · rw [dif_neg e]
        have er : r = q := by omega
        simp only [List.getElem_singleton]
        constructor
        · intro h
          exact ⟨i, by omega, by rw [hlast, er], h⟩
        · rintro ⟨j, h1, h2, h3⟩
          by_cases ej : j = i
          · rw [← ej]
            exact h3
          · rw [rms_get (by omega)] at h2
            have := R.lt j (by omega)
            omega
    · rw [List.length_append, List.length_singleton, ← cnt_len]
      have hs : ∀ s ∈ List.range (es.length + 1), s ∈ ((List.range (i + 1)).filter fun j => decide (Be sp i < En' sp j)).map fun j => (rms sp (i + 1)).getD j 0 := fun s hs => by
        have hs := List.mem_range.mp hs
        by_cases e : s = q
        · exact List.mem_map.mpr ⟨i, List.mem_filter.mpr ⟨List.mem_range.mpr (by omega), decide_eq_true ub⟩, by rw [hlast, e]⟩
        · obtain ⟨j, h1, h2, h3⟩ := mem_tak.mp (n2 s (by omega))
          exact List.mem_map.mpr ⟨j, List.mem_filter.mpr ⟨List.mem_range.mpr (by omega), decide_eq_true h3⟩, by rw [rms_get h1]; exact h2⟩
      have := len_sub _ _ List.nodup_range hs
      rw [List.length_range, List.length_map] at this
      exact this
/-- as many rooms as at once -/
theorem Rm.most (U : Up sp) (R : Rm sp sp.length es) : es.length = lon sp := by
  have e := all_map sp
  apply Nat.le_antisymm
  · rcases R.full with h | ⟨m, h1, h2⟩
    · omega
    · have hf := (fit_lon (k := lon sp) (c := fun _ => true) U).mp (by rw [e]; exact Nat.le_refl _)
      have := hf m h1
      simp only [Bool.true_and] at this
      omega
  · conv => lhs; rw [← e]
    refine (fit_lon U).mpr fun i hi => ?_
    simp only [Bool.true_and]
    rw [← cnt_len]
    have := len_sub (((List.range (i + 1)).filter fun j => decide (Be sp i < En' sp j)).map fun j => (rms sp sp.length).getD j 0) (List.range es.length) ?_ fun x hx => ?_
    · rw [List.length_map, List.length_range] at this
      exact this
    · rw [List.nodup_iff_pairwise_ne, List.pairwise_map]
      refine List.Pairwise.imp_of_mem (R := fun a b => a < b) (fun {a b} ha hb hab e => ?_) (List.pairwise_lt_range.filter _)
      have h1 := of_decide_eq_true (List.mem_filter.mp ha).2
      have h2 := List.mem_range.mp (List.mem_filter.mp hb).1
      have := R.apart a b hab (by omega) e
      have := U.up b i (by omega) hi
      omega
    · obtain ⟨j, hj, e⟩ := List.mem_map.mp hx
      have := List.mem_range.mp (List.mem_filter.mp hj).1
      rw [List.mem_range, ← e]
      exact R.lt j (by omega)
end
end LW

namespace LW
open PySem DL
theorem zipIdx_range (es : List Int) : es.zipIdx = (List.range es.length).map fun r => (es.getD r 0, r) := by
  apply List.ext_getElem
  · simp
  · intro i h1 h2
    simp at h1
    simp [List.getD_eq_getElem?_getD, h1]
theorem sp_rooms {sp : List (Int × Int)} {Q : D → Prop} (U : Up sp) (hl : sp.length ≤ 100) (h : Q (.tup ((rms sp sp.length).map iD))) : f_rooms_as_they_come [.tup (sp.map fr)] Q := by
  simp only [x_sSq, x_sNx, x_sBk, x_sCt, x_sRet, x_sRetN, x_sIf, x_sAsg, x_sOwn, x_sPar, x_sPar3, x_sPx, x_sPx3, x_sPx4, x_xD, x_xF, x_sDrop, x_sFor, atE0, atES, frz_own, frz_d, frz_u, x_sFrz, slV_d, slV_own, slD_d, slO_own, x_sApp, exB_lst, x_sExt, x_sStx, x_gV, x_gD, x_gN, x_gT, x_gC, x_gE, x_mC, x_mL, x_m1, x_m2, x_mT, bB_bl, iB_int, x_mChain, x_mAnd, x_mOr, x_mNot, x_mAndV, x_mOrV, x_mNotV, x_mIte, x_aN, x_aC, x_mTup, x_mLst, x_mCall, x_add, x_addT, x_addL, x_sub, x_mul, x_div, x_mod, x_pow, x_shl, x_neg, x_lt, x_le, x_gt, x_ge, x_ltB, x_leB, x_gtB, x_geB, x_eq, x_ne, x_eqT, x_neT, x_eqL, x_neL, x_eqS, x_neS, x_eqB, x_neB, x_is, x_isN, x_isB, x_isNB, isNon_non, isNon_int, isNon_tup, isNon_lst, isNon_str, isNon_bl, x_inT, x_inL, x_ninT, x_ninL, x_ix0, x_ix1, x_ix2, x_ixl0, x_ixl1, x_ixl2, x_ixl3, oB_int, x_oN, x_oS, slB_lst, slB_tup, x_mSl, lB_lst, x_mSlF, x_mRev, rvB_lst, rvB_tup, x_mRevB, x_mCatF, x_mRepF, x_mulL, x_mulB, x_mulBT, x_lenL, x_lenT, x_abs, x_int, x_intB, x_max2, x_min2, x_tupL, x_tupT, x_lstL, x_lstT, x_sum, x_sumT, x_any, x_all, sqB_lst, sqB_tup, x_mSeqB, r1B_, x_mR1, r2B_, x_mR2, x_mEnumL, zpB_l, zpB_t, x_mZip, x_mZipB, zpX_ll, zpX_tt, zpX_tl, zpX_lt, x_rg1, x_rg2, x_mLRg, x_mTRg, x_mLc, wipe1, wipe2, wipe3, x_tTrue, x_fnM, x_pick, x_eqZl, x_neZl, x_eqZt, x_neZt, List.isEmpty_nil, List.isEmpty_cons, deq_ii, x_ite, sizeLine_is, true_and, and_true, forall_const, implies_true, not_true_eq_false, not_false_eq_true, false_implies, true_implies, Bool.true_eq_false, Bool.false_eq_true, decide_eq_true_eq, decide_true, decide_false, Bool.not_true, Bool.not_false, Bool.not_eq_true', decide_eq_false_iff_not, Decidable.not_not, x_flatF, x_mLc2, flat_bl, flat_int, flat_non, x_mR3, r3B_, cast_0, cast_1, cast_2, cast_3, Int.reduceEq, Int.reduceLT, Int.reduceLE, isi_int_non, isi_int_bl, isi_int_int, isi_int_str, isi_int_tup, isi_int_lst, isi_bool_non, isi_bool_bl, isi_bool_int, isi_bool_str, isi_bool_tup, isi_bool_lst, isi_tuple_non, isi_tuple_bl, isi_tuple_int, isi_tuple_str, isi_tuple_tup, isi_tuple_lst, isi_list_non, isi_list_bl, isi_list_int, isi_list_str, isi_list_tup, isi_list_lst, isi_str_non, isi_str_bl, isi_str_int, isi_str_str, isi_str_tup, isi_str_lst, isi_int_dct, isi_bool_dct, isi_tuple_dct, isi_list_dct, isi_str_dct, isi_dict_dct, isNon_dct, isi_q, sqB_q, len_q, isNon_q, q_ix0, q_ix1, q_eq, q_ne, List.length_cons, List.length_nil, Nat.reduceAdd, Nat.reduceLeDiff, Nat.reduceSub, Nat.zero_add, List.set_cons_zero, List.set_cons_succ, List.map_cons, List.map_nil, List.replicate_succ, List.replicate_zero, List.cons_append, List.nil_append, f_rooms_as_they_come, b_rooms_as_they_come, b_rooms_as_they_come_4]
  refine for_inv (fun i en => ∃ es s3 s4 s5 s6 s7, en = [.d (.tup (sp.map fr)), .own (es.map .int), .own ((rms sp i).map iD), s3, s4, s5, s6, s7] ∧ Rm sp i es) _ 0 ⟨[], .u, .u, .u, .u, .u, rfl, Rm.zero sp⟩ (fun i x en hx hI N hN => ?_) fun en hI => ?_
  · obtain ⟨es, s3, s4, s5, s6, s7, rfl, R⟩ := hI
    rw [Nat.zero_add] at hN R ⊢
    obtain ⟨hi, rfl⟩ := fr_get hx
    obtain ⟨hm, _, hq, R2⟩ := R.step U hi
    have hlen := R.len
    have hr : rms sp (i + 1) = rms sp i ++ [takes es (Be sp i)] := by rw [rms, hm]
    simp only [x_sSq, x_sNx, x_sBk, x_sCt, x_sRet, x_sRetN, x_sIf, x_sAsg, x_sOwn, x_sPar, x_sPar3, x_sPx, x_sPx3, x_sPx4, x_xD, x_xF, x_sDrop, x_sFor, atE0, atES, frz_own, frz_d, frz_u, x_sFrz, slV_d, slV_own, slD_d, slO_own, x_sApp, exB_lst, x_sExt, x_sStx, x_gV, x_gD, x_gN, x_gT, x_gC, x_gE, x_mC, x_mL, x_m1, x_m2, x_mT, bB_bl, iB_int, x_mChain, x_mAnd, x_mOr, x_mNot, x_mAndV, x_mOrV, x_mNotV, x_mIte, x_aN, x_aC, x_mTup, x_mLst, x_mCall, x_add, x_addT, x_addL, x_sub, x_mul, x_div, x_mod, x_pow, x_shl, x_neg, x_lt, x_le, x_gt, x_ge, x_ltB, x_leB, x_gtB, x_geB, x_eq, x_ne, x_eqT, x_neT, x_eqL, x_neL, x_eqS, x_neS, x_eqB, x_neB, x_is, x_isN, x_isB, x_isNB, isNon_non, isNon_int, isNon_tup, isNon_lst, isNon_str, isNon_bl, x_inT, x_inL, x_ninT, x_ninL, x_ix0, x_ix1, x_ix2, x_ixl0, x_ixl1, x_ixl2, x_ixl3, oB_int, x_oN, x_oS, slB_lst, slB_tup, x_mSl, lB_lst, x_mSlF, x_mRev, rvB_lst, rvB_tup, x_mRevB, x_mCatF, x_mRepF, x_mulL, x_mulB, x_mulBT, x_lenL, x_lenT, x_abs, x_int, x_intB, x_max2, x_min2, x_tupL, x_tupT, x_lstL, x_lstT, x_sum, x_sumT, x_any, x_all, sqB_lst, sqB_tup, x_mSeqB, r1B_, x_mR1, r2B_, x_mR2, x_mEnumL, zpB_l, zpB_t, x_mZip, x_mZipB, zpX_ll, zpX_tt, zpX_tl, zpX_lt, x_rg1, x_rg2, x_mLRg, x_mTRg, x_mLc, wipe1, wipe2, wipe3, x_tTrue, x_fnM, x_pick, x_eqZl, x_neZl, x_eqZt, x_neZt, List.isEmpty_nil, List.isEmpty_cons, deq_ii, x_ite, sizeLine_is, true_and, and_true, forall_const, implies_true, not_true_eq_false, not_false_eq_true, false_implies, true_implies, Bool.true_eq_false, Bool.false_eq_true, decide_eq_true_eq, decide_true, decide_false, Bool.not_true, Bool.not_false, Bool.not_eq_true', decide_eq_false_iff_not, Decidable.not_not, x_flatF, x_mLc2, flat_bl, flat_int, flat_non, x_mR3, r3B_, cast_0, cast_1, cast_2, cast_3, Int.reduceEq, Int.reduceLT, Int.reduceLE, isi_int_non, isi_int_bl, isi_int_int, isi_int_str, isi_int_tup, isi_int_lst, isi_bool_non, isi_bool_bl, isi_bool_int, isi_bool_str, isi_bool_tup, isi_bool_lst, isi_tuple_non, isi_tuple_bl, isi_tuple_int, isi_tuple_str, isi_tuple_tup, isi_tuple_lst, isi_list_non, isi_list_bl, isi_list_int, isi_list_str, isi_list_tup, isi_list_lst, isi_str_non, isi_str_bl, isi_str_int, isi_str_str, isi_str_tup, isi_str_lst, isi_int_dct, isi_bool_dct, isi_tuple_dct, isi_list_dct, isi_str_dct, isi_dict_dct, isNon_dct, isi_q, sqB_q, len_q, isNon_q, q_ix0, q_ix1, q_eq, q_ne, List.length_cons, List.length_nil, Nat.reduceAdd, Nat.reduceLeDiff, Nat.reduceSub, Nat.zero_add, List.set_cons_zero, List.set_cons_succ, List.map_cons, List.map_nil, List.replicate_succ, List.replicate_zero, List.cons_append, List.nil_append, b_rooms_as_they_come_3, fr]
    rw [enum_map, zipIdx_range, List.map_map]
    rw [List.length_map, List.length_range]
    refine ⟨by omega, lc_filE ((fun p : Int × Nat => D.tup [.int (p.2 : Int), .int p.1]) ∘ fun r => (es.getD r 0, r)) (fun r => decide (es.getD r 0 ≤ Be sp i)) iD (fun r hr Qy Qn hy hn => ?_) ?_⟩
    · show gT 2 _ (.tup [.int (r : Int), .int (es.getD r 0)]) _ _
      (try simp only [x_sSq, x_sNx, x_sBk, x_sCt, x_sRet, x_sRetN, x_sIf, x_sAsg, x_sOwn, x_sPar, x_sPar3, x_sPx, x_sPx3, x_sPx4, x_xD, x_xF, x_sDrop, x_sFor, atE0, atES, frz_own, frz_d, frz_u, x_sFrz, slV_d, slV_own, slD_d, slO_own, x_sApp, exB_lst, x_sExt, x_sStx, x_gV, x_gD, x_gN, x_gT, x_gC, x_gE, x_mC, x_mL, x_m1, x_m2, x_mT, bB_bl, iB_int, x_mChain, x_mAnd, x_mOr, x_mNot, x_mAndV, x_mOrV, x_mNotV, x_mIte, x_aN, x_aC, x_mTup, x_mLst, x_mCall, x_add, x_addT, x_addL, x_sub, x_mul, x_div, x_mod, x_pow, x_shl, x_neg, x_lt, x_le, x_gt, x_ge, x_ltB, x_leB, x_gtB, x_geB, x_eq, x_ne, x_eqT, x_neT, x_eqL, x_neL, x_eqS, x_neS, x_eqB, x_neB, x_is, x_isN, x_isB, x_isNB, isNon_non, isNon_int, isNon_tup, isNon_lst, isNon_str, isNon_bl, x_inT, x_inL, x_ninT, x_ninL, x_ix0, x_ix1, x_ix2, x_ixl0, x_ixl1, x_ixl2, x_ixl3, oB_int, x_oN, x_oS, slB_lst, slB_tup, x_mSl, lB_lst, x_mSlF, x_mRev, rvB_lst, rvB_tup, x_mRevB, x_mCatF, x_mRepF, x_mulL, x_mulB, x_mulBT, x_lenL, x_lenT, x_abs, x_int, x_intB, x_max2, x_min2, x_tupL, x_tupT, x_lstL, x_lstT, x_sum, x_sumT, x_any, x_all, sqB_lst, sqB_tup, x_mSeqB, r1B_, x_mR1, r2B_, x_mR2, x_mEnumL, zpB_l, zpB_t, x_mZip, x_mZipB, zpX_ll, zpX_tt, zpX_tl, zpX_lt, x_rg1, x_rg2, x_mLRg, x_mTRg, x_mLc, wipe1, wipe2, wipe3, x_tTrue, x_fnM, x_pick, x_eqZl, x_neZl, x_eqZt, x_neZt, List.isEmpty_nil, List.isEmpty_cons, deq_ii, x_ite, sizeLine_is, true_and, and_true, forall_const, implies_true, not_true_eq_false, not_false_eq_true, false_implies, true_implies, Bool.true_eq_false, Bool.false_eq_true, decide_eq_true_eq, decide_true, decide_false, Bool.not_true, Bool.not_false, Bool.not_eq_true', decide_eq_false_iff_not, Decidable.not_not, x_flatF, x_mLc2, flat_bl, flat_int, flat_non, x_mR3, r3B_, cast_0, cast_1, cast_2, cast_3, Int.reduceEq, Int.reduceLT, Int.reduceLE, isi_int_non, isi_int_bl, isi_int_int, isi_int_str, isi_int_tup, isi_int_lst, isi_bool_non, isi_bool_bl, isi_bool_int, isi_bool_str, isi_bool_tup, isi_bool_lst, isi_tuple_non, isi_tuple_bl, isi_tuple_int, isi_tuple_str, isi_tuple_tup, isi_tuple_lst, isi_list_non, isi_list_bl, isi_list_int, isi_list_str, isi_list_tup, isi_list_lst, isi_str_non, isi_str_bl, isi_str_int, isi_str_str, isi_str_tup, isi_str_lst, isi_int_dct, isi_bool_dct, isi_tuple_dct, isi_list_dct, isi_str_dct, isi_dict_dct, isNon_dct, isi_q, sqB_q, len_q, isNon_q, q_ix0, q_ix1, q_eq, q_ne, List.length_cons, List.length_nil, Nat.reduceAdd, Nat.reduceLeDiff, Nat.reduceSub, Nat.zero_add, List.set_cons_zero, List.set_cons_succ, List.map_cons, List.map_nil, List.replicate_succ, List.replicate_zero, List.cons_append, List.nil_append])
      exact ⟨fun h => hy (decide_eq_true h), fun h => hn (decide_eq_false h)⟩
    · unfold takes at *
      simp only [x_sSq, x_sNx, x_sBk, x_sCt, x_sRet, x_sRetN, x_sIf, x_sAsg, x_sOwn, x_sPar, x_sPar3, x_sPx, x_sPx3, x_sPx4, x_xD, x_xF, x_sDrop, x_sFor, atE0, atES, frz_own, frz_d, frz_u, x_sFrz, slV_d, slV_own, slD_d, slO_own, x_sApp, exB_lst, x_sExt, x_sStx, x_gV, x_gD, x_gN, x_gT, x_gC, x_gE, x_mC, x_mL, x_m1, x_m2, x_mT, bB_bl, iB_int, x_mChain, x_mAnd, x_mOr, x_mNot, x_mAndV, x_mOrV, x_mNotV, x_mIte, x_aN, x_aC, x_mTup, x_mLst, x_mCall, x_add, x_addT, x_addL, x_sub, x_mul, x_div, x_mod, x_pow, x_shl, x_neg, x_lt, x_le, x_gt, x_ge, x_ltB, x_leB, x_gtB, x_geB, x_eq, x_ne, x_eqT, x_neT, x_eqL, x_neL, x_eqS, x_neS, x_eqB, x_neB, x_is, x_isN, x_isB, x_isNB, isNon_non, isNon_int, isNon_tup, isNon_lst, isNon_str, isNon_bl, x_inT, x_inL, x_ninT, x_ninL, x_ix0, x_ix1, x_ix2, x_ixl0, x_ixl1, x_ixl2, x_ixl3, oB_int, x_oN, x_oS, slB_lst, slB_tup, x_mSl, lB_lst, x_mSlF, x_mRev, rvB_lst, rvB_tup, x_mRevB, x_mCatF, x_mRepF, x_mulL, x_mulB, x_mulBT, x_lenL, x_lenT, x_abs, x_int, x_intB, x_max2, x_min2, x_tupL, x_tupT, x_lstL, x_lstT, x_sum, x_sumT, x_any, x_all, sqB_lst, sqB_tup, x_mSeqB, r1B_, x_mR1, r2B_, x_mR2, x_mEnumL, zpB_l, zpB_t, x_mZip, x_mZipB, zpX_ll, zpX_tt, zpX_tl, zpX_lt, x_rg1, x_rg2, x_mLRg, x_mTRg, x_mLc, wipe1, wipe2, wipe3, x_tTrue, x_fnM, x_pick, x_eqZl, x_neZl, x_eqZt, x_neZt, List.isEmpty_nil, List.isEmpty_cons, deq_ii, x_ite, sizeLine_is, true_and, and_true, forall_const, implies_true, not_true_eq_false, not_false_eq_true, false_implies, true_implies, Bool.true_eq_false, Bool.false_eq_true, decide_eq_true_eq, decide_true, decide_false, Bool.not_true, Bool.not_false, Bool.not_eq_true', decide_eq_false_iff_not, Decidable.not_not, x_flatF, x_mLc2, flat_bl, flat_int, flat_non, x_mR3, r3B_, cast_0, cast_1, cast_2, cast_3, Int.reduceEq, Int.reduceLT, Int.reduceLE, isi_int_non, isi_int_bl, isi_int_int, isi_int_str, isi_int_tup, isi_int_lst, isi_bool_non, isi_bool_bl, isi_bool_int, isi_bool_str, isi_bool_tup, isi_bool_lst, isi_tuple_non, isi_tuple_bl, isi_tuple_int, isi_tuple_str, isi_tuple_tup, isi_tuple_lst, isi_list_non, isi_list_bl, isi_list_int, isi_list_str, isi_list_tup, isi_list_lst, isi_str_non, isi_str_bl, isi_str_int, isi_str_str, isi_str_tup, isi_str_lst, isi_int_dct, isi_bool_dct, isi_tuple_dct, isi_list_dct, isi_str_dct, isi_dict_dct, isNon_dct, isi_q, sqB_q, len_q, isNon_q, q_ix0, q_ix1, q_eq, q_ne, List.length_cons, List.length_nil, Nat.reduceAdd, Nat.reduceLeDiff, Nat.reduceSub, Nat.zero_add, List.set_cons_zero, List.set_cons_succ, List.map_cons, List.map_nil, List.replicate_succ, List.replicate_zero, List.cons_append, List.nil_append, b_rooms_as_they_come_2]
      cases hf : (List.range es.length).filter fun r => decide (es.getD r 0 ≤ Be sp i) with
      | nil =>
        rw [hf] at R2 hr
        rw [List.headD_nil] at R2 hr
        rw [if_neg (Nat.lt_irrefl _)] at R2
        have key : ∀ s3 s4 s5 s6 s7, N [.d (.tup (sp.map fr)), .own (es.map .int ++ [.int (En' sp i)]), .own ((rms sp i).map iD ++ [iD es.length]), s3, s4, s5, s6, s7] := fun s3 s4 s5 s6 s7 => hN _ ⟨es ++ [En' sp i], s3, s4, s5, s6, s7, by rw [hr, List.map_append, List.map_append]; rfl, R2⟩
        have e : (es.map D.int ++ [D.int (sp.getD i (0, 0)).2]).set es.length (D.int (sp.getD i (0, 0)).2) = es.map D.int ++ [D.int (En' sp i)] := by
          rw [List.set_append, List.length_map, if_neg (Nat.lt_irrefl _), Nat.sub_self]
          rfl
        simp only [x_sSq, x_sNx, x_sBk, x_sCt, x_sRet, x_sRetN, x_sIf, x_sAsg, x_sOwn, x_sPar, x_sPar3, x_sPx, x_sPx3, x_sPx4, x_xD, x_xF, x_sDrop, x_sFor, atE0, atES, frz_own, frz_d, frz_u, x_sFrz, slV_d, slV_own, slD_d, slO_own, x_sApp, exB_lst, x_sExt, x_sStx, x_gV, x_gD, x_gN, x_gT, x_gC, x_gE, x_mC, x_mL, x_m1, x_m2, x_mT, bB_bl, iB_int, x_mChain, x_mAnd, x_mOr, x_mNot, x_mAndV, x_mOrV, x_mNotV, x_mIte, x_aN, x_aC, x_mTup, x_mLst, x_mCall, x_add, x_addT, x_addL, x_sub, x_mul, x_div, x_mod, x_pow, x_shl, x_neg, x_lt, x_le, x_gt, x_ge, x_ltB, x_leB, x_gtB, x_geB, x_eq, x_ne, x_eqT, x_neT, x_eqL, x_neL, x_eqS, x_neS, x_eqB, x_neB, x_is, x_isN, x_isB, x_isNB, isNon_non, isNon_int, isNon_tup, isNon_lst, isNon_str, isNon_bl, x_inT, x_inL, x_ninT, x_ninL, x_ix0, x_ix1, x_ix2, x_ixl0, x_ixl1, x_ixl2, x_ixl3, oB_int, x_oN, x_oS, slB_lst, slB_tup, x_mSl, lB_lst, x_mSlF, x_mRev, rvB_lst, rvB_tup, x_mRevB, x_mCatF, x_mRepF, x_mulL, x_mulB, x_mulBT, x_lenL, x_lenT, x_abs, x_int, x_intB, x_max2, x_min2, x_tupL, x_tupT, x_lstL, x_lstT, x_sum, x_sumT, x_any, x_all, sqB_lst, sqB_tup, x_mSeqB, r1B_, x_mR1, r2B_, x_mR2, x_mEnumL, zpB_l, zpB_t, x_mZip, x_mZipB, zpX_ll, zpX_tt, zpX_tl, zpX_lt, x_rg1, x_rg2, x_mLRg, x_mTRg, x_mLc, wipe1, wipe2, wipe3, x_tTrue, x_fnM, x_pick, x_eqZl, x_neZl, x_eqZt, x_neZt, List.isEmpty_nil, List.isEmpty_cons, deq_ii, x_ite, sizeLine_is, true_and, and_true, forall_const, implies_true, not_true_eq_false, not_false_eq_true, false_implies, true_implies, Bool.true_eq_false, Bool.false_eq_true, decide_eq_true_eq, decide_true, decide_false, Bool.not_true, Bool.not_false, Bool.not_eq_true', decide_eq_false_iff_not, Decidable.not_not, x_flatF, x_mLc2, flat_bl, flat_int, flat_non, x_mR3, r3B_, cast_0, cast_1, cast_2, cast_3, Int.reduceEq, Int.reduceLT, Int.reduceLE, isi_int_non, isi_int_bl, isi_int_int, isi_int_str, isi_int_tup, isi_int_lst, isi_bool_non, isi_bool_bl, isi_bool_int, isi_bool_str, isi_bool_tup, isi_bool_lst, isi_tuple_non, isi_tuple_bl, isi_tuple_int, isi_tuple_str, isi_tuple_tup, isi_tuple_lst, isi_list_non, isi_list_bl, isi_list_int, isi_list_str, isi_list_tup, isi_list_lst, isi_str_non, isi_str_bl, isi_str_int, isi_str_str, isi_str_tup, isi_str_lst, isi_int_dct, isi_bool_dct, isi_tuple_dct, isi_list_dct, isi_str_dct, isi_dict_dct, isNon_dct, isi_q, sqB_q, len_q, isNon_q, q_ix0, q_ix1, q_eq, q_ne, List.length_cons, List.length_nil, Nat.reduceAdd, Nat.reduceLeDiff, Nat.reduceSub, Nat.zero_add, List.set_cons_zero, List.set_cons_succ, List.map_cons, List.map_nil, List.replicate_succ, List.replicate_zero, List.cons_append, List.nil_append, List.length_map]
        refine ⟨by omega, ?_⟩
        simp only [x_sSq, x_sNx, x_sBk, x_sCt, x_sRet, x_sRetN, x_sIf, x_sAsg, x_sOwn, x_sPar, x_sPar3, x_sPx, x_sPx3, x_sPx4, x_xD, x_xF, x_sDrop, x_sFor, atE0, atES, frz_own, frz_d, frz_u, x_sFrz, slV_d, slV_own, slD_d, slO_own, x_sApp, exB_lst, x_sExt, x_sStx, x_gV, x_gD, x_gN, x_gT, x_gC, x_gE, x_mC, x_mL, x_m1, x_m2, x_mT, bB_bl, iB_int, x_mChain, x_mAnd, x_mOr, x_mNot, x_mAndV, x_mOrV, x_mNotV, x_mIte, x_aN, x_aC, x_mTup, x_mLst, x_mCall, x_add, x_addT, x_addL, x_sub, x_mul, x_div, x_mod, x_pow, x_shl, x_neg, x_lt, x_le, x_gt, x_ge, x_ltB, x_leB, x_gtB, x_geB, x_eq, x_ne, x_eqT, x_neT, x_eqL, x_neL, x_eqS, x_neS, x_eqB, x_neB, x_is, x_isN, x_isB, x_isNB, isNon_non, isNon_int, isNon_tup, isNon_lst, isNon_str, isNon_bl, x_inT, x_inL, x_ninT, x_ninL, x_ix0, x_ix1, x_ix2, x_ixl0, x_ixl1, x_ixl2, x_ixl3, oB_int, x_oN, x_oS, slB_lst, slB_tup, x_mSl, lB_lst, x_mSlF, x_mRev, rvB_lst, rvB_tup, x_mRevB, x_mCatF, x_mRepF, x_mulL, x_mulB, x_mulBT, x_lenL, x_lenT, x_abs, x_int, x_intB, x_max2, x_min2, x_tupL, x_tupT, x_lstL, x_lstT, x_sum, x_sumT, x_any, x_all, sqB_lst, sqB_tup, x_mSeqB, r1B_, x_mR1, r2B_, x_mR2, x_mEnumL, zpB_l, zpB_t, x_mZip, x_mZipB, zpX_ll, zpX_tt, zpX_tl, zpX_lt, x_rg1, x_rg2, x_mLRg, x_mTRg, x_mLc, wipe1, wipe2, wipe3, x_tTrue, x_fnM, x_pick, x_eqZl, x_neZl, x_eqZt, x_neZt, List.isEmpty_nil, List.isEmpty_cons, deq_ii, x_ite, sizeLine_is, true_and, and_true, forall_const, implies_true, not_true_eq_false, not_false_eq_true, false_implies, true_implies, Bool.true_eq_false, Bool.false_eq_true, decide_eq_true_eq, decide_true, decide_false, Bool.not_true, Bool.not_false, Bool.not_eq_true', decide_eq_false_iff_not, Decidable.not_not, x_flatF, x_mLc2, flat_bl, flat_int, flat_non, x_mR3, r3B_, cast_0, cast_1, cast_2, cast_3, Int.reduceEq, Int.reduceLT, Int.reduceLE, isi_int_non, isi_int_bl, isi_int_int, isi_int_str, isi_int_tup, isi_int_lst, isi_bool_non, isi_bool_bl, isi_bool_int, isi_bool_str, isi_bool_tup, isi_bool_lst, isi_tuple_non, isi_tuple_bl, isi_tuple_int, isi_tuple_str, isi_tuple_tup, isi_tuple_lst, isi_list_non, isi_list_bl, isi_list_int, isi_list_str, isi_list_tup, isi_list_lst, isi_str_non, isi_str_bl, isi_str_int, isi_str_str, isi_str_tup, isi_str_lst, isi_int_dct, isi_bool_dct, isi_tuple_dct, isi_list_dct, isi_str_dct, isi_dict_dct, isNon_dct, isi_q, sqB_q, len_q, isNon_q, q_ix0, q_ix1, q_eq, q_ne, List.length_cons, List.length_nil, Nat.reduceAdd, Nat.reduceLeDiff, Nat.reduceSub, Nat.zero_add, List.set_cons_zero, List.set_cons_succ, List.map_cons, List.map_nil, List.replicate_succ, List.replicate_zero, List.cons_append, List.nil_append, b_rooms_as_they_come_1, List.length_append, List.length_map]
        rw [ixN_nat (by omega)]
        simp only [x_sSq, x_sNx, x_sBk, x_sCt, x_sRet, x_sRetN, x_sIf, x_sAsg, x_sOwn, x_sPar, x_sPar3, x_sPx, x_sPx3, x_sPx4, x_xD, x_xF, x_sDrop, x_sFor, atE0, atES, frz_own, frz_d, frz_u, x_sFrz, slV_d, slV_own, slD_d, slO_own, x_sApp, exB_lst, x_sExt, x_sStx, x_gV, x_gD, x_gN, x_gT, x_gC, x_gE, x_mC, x_mL, x_m1, x_m2, x_mT, bB_bl, iB_int, x_mChain, x_mAnd, x_mOr, x_mNot, x_mAndV, x_mOrV, x_mNotV, x_mIte, x_aN, x_aC, x_mTup, x_mLst, x_mCall, x_add, x_addT, x_addL, x_sub, x_mul, x_div, x_mod, x_pow, x_shl, x_neg, x_lt, x_le, x_gt, x_ge, x_ltB, x_leB, x_gtB, x_geB, x_eq, x_ne, x_eqT, x_neT, x_eqL, x_neL, x_eqS, x_neS, x_eqB, x_neB, x_is, x_isN, x_isB, x_isNB, isNon_non, isNon_int, isNon_tup, isNon_lst, isNon_str, isNon_bl, x_inT, x_inL, x_ninT, x_ninL, x_ix0, x_ix1, x_ix2, x_ixl0, x_ixl1, x_ixl2, x_ixl3, oB_int, x_oN, x_oS, slB_lst, slB_tup, x_mSl, lB_lst, x_mSlF, x_mRev, rvB_lst, rvB_tup, x_mRevB, x_mCatF, x_mRepF, x_mulL, x_mulB, x_mulBT, x_lenL, x_lenT, x_abs, x_int, x_intB, x_max2, x_min2, x_tupL, x_tupT, x_lstL, x_lstT, x_sum, x_sumT, x_any, x_all, sqB_lst, sqB_tup, x_mSeqB, r1B_, x_mR1, r2B_, x_mR2, x_mEnumL, zpB_l, zpB_t, x_mZip, x_mZipB, zpX_ll, zpX_tt, zpX_tl, zpX_lt, x_rg1, x_rg2, x_mLRg, x_mTRg, x_mLc, wipe1, wipe2, wipe3, x_tTrue, x_fnM, x_pick, x_eqZl, x_neZl, x_eqZt, x_neZt, List.isEmpty_nil, List.isEmpty_cons, deq_ii, x_ite, sizeLine_is, true_and, and_true, forall_const, implies_true, not_true_eq_false, not_false_eq_true, false_implies, true_implies, Bool.true_eq_false, Bool.false_eq_true, decide_eq_true_eq, decide_true, decide_false, Bool.not_true, Bool.not_false, Bool.not_eq_true', decide_eq_false_iff_not, Decidable.not_not, x_flatF, x_mLc2, flat_bl, flat_int, flat_non, x_mR3, r3B_, cast_0, cast_1, cast_2, cast_3, Int.reduceEq, Int.reduceLT, Int.reduceLE, isi_int_non, isi_int_bl, isi_int_int, isi_int_str, isi_int_tup, isi_int_lst, isi_bool_non, isi_bool_bl, isi_bool_int, isi_bool_str, isi_bool_tup, isi_bool_lst, isi_tuple_non, isi_tuple_bl, isi_tuple_int, isi_tuple_str, isi_tuple_tup, isi_tuple_lst, isi_list_non, isi_list_bl, isi_list_int, isi_list_str, isi_list_tup, isi_list_lst, isi_str_non, isi_str_bl, isi_str_int, isi_str_str, isi_str_tup, isi_str_lst, isi_int_dct, isi_bool_dct, isi_tuple_dct, isi_list_dct, isi_str_dct, isi_dict_dct, isNon_dct, isi_q, sqB_q, len_q, isNon_q, q_ix0, q_ix1, q_eq, q_ne, List.length_cons, List.length_nil, Nat.reduceAdd, Nat.reduceLeDiff, Nat.reduceSub, Nat.zero_add, List.set_cons_zero, List.set_cons_succ, List.map_cons, List.map_nil, List.replicate_succ, List.replicate_zero, List.cons_append, List.nil_append, List.length_map, rms_len]
        rw [e]
        exact ⟨by omega, key _ _ _ _ _⟩
      | cons r t =>
        rw [hf] at R2 hr
        rw [List.headD_cons] at R2 hr
        have hrl : r < es.length := by
          have : r ∈ (List.range es.length).filter fun r => decide (es.getD r 0 ≤ Be sp i) := by rw [hf]; exact List.mem_cons_self
          exact List.mem_range.mp (List.mem_filter.mp this).1
        rw [if_pos hrl] at R2
        have key : ∀ s3 s4 s5 s6 s7, N [.d (.tup (sp.map fr)), .own ((es.map .int).set r (.int (En' sp i))), .own ((rms sp i).map iD ++ [iD r]), s3, s4, s5, s6, s7] := fun s3 s4 s5 s6 s7 => hN _ ⟨es.set r (En' sp i), s3, s4, s5, s6, s7, by rw [hr, List.map_append, List.map_set]; rfl, R2⟩
        (try simp only [x_sSq, x_sNx, x_sBk, x_sCt, x_sRet, x_sRetN, x_sIf, x_sAsg, x_sOwn, x_sPar, x_sPar3, x_sPx, x_sPx3, x_sPx4, x_xD, x_xF, x_sDrop, x_sFor, atE0, atES, frz_own, frz_d, frz_u, x_sFrz, slV_d, slV_own, slD_d, slO_own, x_sApp, exB_lst, x_sExt, x_sStx, x_gV, x_gD, x_gN, x_gT, x_gC, x_gE, x_mC, x_mL, x_m1, x_m2, x_mT, bB_bl, iB_int, x_mChain, x_mAnd, x_mOr, x_mNot, x_mAndV, x_mOrV, x_mNotV, x_mIte, x_aN, x_aC, x_mTup, x_mLst, x_mCall, x_add, x_addT, x_addL, x_sub, x_mul, x_div, x_mod, x_pow, x_shl, x_neg, x_lt, x_le, x_gt, x_ge, x_ltB, x_leB, x_gtB, x_geB, x_eq, x_ne, x_eqT, x_neT, x_eqL, x_neL, x_eqS, x_neS, x_eqB, x_neB, x_is, x_isN, x_isB, x_isNB, isNon_non, isNon_int, isNon_tup, isNon_lst, isNon_str, isNon_bl, x_inT, x_inL, x_ninT, x_ninL, x_ix0, x_ix1, x_ix2, x_ixl0, x_ixl1, x_ixl2, x_ixl3, oB_int, x_oN, x_oS, slB_lst, slB_tup, x_mSl, lB_lst, x_mSlF, x_mRev, rvB_lst, rvB_tup, x_mRevB, x_mCatF, x_mRepF, x_mulL, x_mulB, x_mulBT, x_lenL, x_lenT, x_abs, x_int, x_intB, x_max2, x_min2, x_tupL, x_tupT, x_lstL, x_lstT, x_sum, x_sumT, x_any, x_all, sqB_lst, sqB_tup, x_mSeqB, r1B_, x_mR1, r2B_, x_mR2, x_mEnumL, zpB_l, zpB_t, x_mZip, x_mZipB, zpX_ll, zpX_tt, zpX_tl, zpX_lt, x_rg1, x_rg2, x_mLRg, x_mTRg, x_mLc, wipe1, wipe2, wipe3, x_tTrue, x_fnM, x_pick, x_eqZl, x_neZl, x_eqZt, x_neZt, List.isEmpty_nil, List.isEmpty_cons, deq_ii, x_ite, sizeLine_is, true_and, and_true, forall_const, implies_true, not_true_eq_false, not_false_eq_true, false_implies, true_implies, Bool.true_eq_false, Bool.false_eq_true, decide_eq_true_eq, decide_true, decide_false, Bool.not_true, Bool.not_false, Bool.not_eq_true', decide_eq_false_iff_not, Decidable.not_not, x_flatF, x_mLc2, flat_bl, flat_int, flat_non, x_mR3, r3B_, cast_0, cast_1, cast_2, cast_3, Int.reduceEq, Int.reduceLT, Int.reduceLE, isi_int_non, isi_int_bl, isi_int_int, isi_int_str, isi_int_tup, isi_int_lst, isi_bool_non, isi_bool_bl, isi_bool_int, isi_bool_str, isi_bool_tup, isi_bool_lst, isi_tuple_non, isi_tuple_bl, isi_tuple_int, isi_tuple_str, isi_tuple_tup, isi_tuple_lst, isi_list_non, isi_list_bl, isi_list_int, isi_list_str, isi_list_tup, isi_list_lst, isi_str_non, isi_str_bl, isi_str_int, isi_str_str, isi_str_tup, isi_str_lst, isi_int_dct, isi_bool_dct, isi_tuple_dct, isi_list_dct, isi_str_dct, isi_dict_dct, isNon_dct, isi_q, sqB_q, len_q, isNon_q, q_ix0, q_ix1, q_eq, q_ne, List.length_cons, List.length_nil, Nat.reduceAdd, Nat.reduceLeDiff, Nat.reduceSub, Nat.zero_add, List.set_cons_zero, List.set_cons_succ, List.map_cons, List.map_nil, List.replicate_succ, List.replicate_zero, List.cons_append, List.nil_append])
        unfold iD
        simp only [x_sSq, x_sNx, x_sBk, x_sCt, x_sRet, x_sRetN, x_sIf, x_sAsg, x_sOwn, x_sPar, x_sPar3, x_sPx, x_sPx3, x_sPx4, x_xD, x_xF, x_sDrop, x_sFor, atE0, atES, frz_own, frz_d, frz_u, x_sFrz, slV_d, slV_own, slD_d, slO_own, x_sApp, exB_lst, x_sExt, x_sStx, x_gV, x_gD, x_gN, x_gT, x_gC, x_gE, x_mC, x_mL, x_m1, x_m2, x_mT, bB_bl, iB_int, x_mChain, x_mAnd, x_mOr, x_mNot, x_mAndV, x_mOrV, x_mNotV, x_mIte, x_aN, x_aC, x_mTup, x_mLst, x_mCall, x_add, x_addT, x_addL, x_sub, x_mul, x_div, x_mod, x_pow, x_shl, x_neg, x_lt, x_le, x_gt, x_ge, x_ltB, x_leB, x_gtB, x_geB, x_eq, x_ne, x_eqT, x_neT, x_eqL, x_neL, x_eqS, x_neS, x_eqB, x_neB, x_is, x_isN, x_isB, x_isNB, isNon_non, isNon_int, isNon_tup, isNon_lst, isNon_str, isNon_bl, x_inT, x_inL, x_ninT, x_ninL, x_ix0, x_ix1, x_ix2, x_ixl0, x_ixl1, x_ixl2, x_ixl3, oB_int, x_oN, x_oS, slB_lst, slB_tup, x_mSl, lB_lst, x_mSlF, x_mRev, rvB_lst, rvB_tup, x_mRevB, x_mCatF, x_mRepF, x_mulL, x_mulB, x_mulBT, x_lenL, x_lenT, x_abs, x_int, x_intB, x_max2, x_min2, x_tupL, x_tupT, x_lstL, x_lstT, x_sum, x_sumT, x_any, x_all, sqB_lst, sqB_tup, x_mSeqB, r1B_, x_mR1, r2B_, x_mR2, x_mEnumL, zpB_l, zpB_t, x_mZip, x_mZipB, zpX_ll, zpX_tt, zpX_tl, zpX_lt, x_rg1, x_rg2, x_mLRg, x_mTRg, x_mLc, wipe1, wipe2, wipe3, x_tTrue, x_fnM, x_pick, x_eqZl, x_neZl, x_eqZt, x_neZt, List.isEmpty_nil, List.isEmpty_cons, deq_ii, x_ite, sizeLine_is, true_and, and_true, forall_const, implies_true, not_true_eq_false, not_false_eq_true, false_implies, true_implies, Bool.true_eq_false, Bool.false_eq_true, decide_eq_true_eq, decide_true, decide_false, Bool.not_true, Bool.not_false, Bool.not_eq_true', decide_eq_false_iff_not, Decidable.not_not, x_flatF, x_mLc2, flat_bl, flat_int, flat_non, x_mR3, r3B_, cast_0, cast_1, cast_2, cast_3, Int.reduceEq, Int.reduceLT, Int.reduceLE, isi_int_non, isi_int_bl, isi_int_int, isi_int_str, isi_int_tup, isi_int_lst, isi_bool_non, isi_bool_bl, isi_bool_int, isi_bool_str, isi_bool_tup, isi_bool_lst, isi_tuple_non, isi_tuple_bl, isi_tuple_int, isi_tuple_str, isi_tuple_tup, isi_tuple_lst, isi_list_non, isi_list_bl, isi_list_int, isi_list_str, isi_list_tup, isi_list_lst, isi_str_non, isi_str_bl, isi_str_int, isi_str_str, isi_str_tup, isi_str_lst, isi_int_dct, isi_bool_dct, isi_tuple_dct, isi_list_dct, isi_str_dct, isi_dict_dct, isNon_dct, isi_q, sqB_q, len_q, isNon_q, q_ix0, q_ix1, q_eq, q_ne, List.length_cons, List.length_nil, Nat.reduceAdd, Nat.reduceLeDiff, Nat.reduceSub, Nat.zero_add, List.set_cons_zero, List.set_cons_succ, List.map_cons, List.map_nil, List.replicate_succ, List.replicate_zero, List.cons_append, List.nil_append, b_rooms_as_they_come_1, List.length_map]
        rw [ixN_nat hrl]
        simp only [x_sSq, x_sNx, x_sBk, x_sCt, x_sRet, x_sRetN, x_sIf, x_sAsg, x_sOwn, x_sPar, x_sPar3, x_sPx, x_sPx3, x_sPx4, x_xD, x_xF, x_sDrop, x_sFor, atE0, atES, frz_own, frz_d, frz_u, x_sFrz, slV_d, slV_own, slD_d, slO_own, x_sApp, exB_lst, x_sExt, x_sStx, x_gV, x_gD, x_gN, x_gT, x_gC, x_gE, x_mC, x_mL, x_m1, x_m2, x_mT, bB_bl, iB_int, x_mChain, x_mAnd, x_mOr, x_mNot, x_mAndV, x_mOrV, x_mNotV, x_mIte, x_aN, x_aC, x_mTup, x_mLst, x_mCall, x_add, x_addT, x_addL, x_sub, x_mul, x_div, x_mod, x_pow, x_shl, x_neg, x_lt, x_le, x_gt, x_ge, x_ltB, x_leB, x_gtB, x_geB, x_eq, x_ne, x_eqT, x_neT, x_eqL, x_neL, x_eqS, x_neS, x_eqB, x_neB, x_is, x_isN, x_isB, x_isNB, isNon_non, isNon_int, isNon_tup, isNon_lst, isNon_str, isNon_bl, x_inT, x_inL, x_ninT, x_ninL, x_ix0, x_ix1, x_ix2, x_ixl0, x_ixl1, x_ixl2, x_ixl3, oB_int, x_oN, x_oS, slB_lst, slB_tup, x_mSl, lB_lst, x_mSlF, x_mRev, rvB_lst, rvB_tup, x_mRevB, x_mCatF, x_mRepF, x_mulL, x_mulB, x_mulBT, x_lenL, x_lenT, x_abs, x_int, x_intB, x_max2, x_min2, x_tupL, x_tupT, x_lstL, x_lstT, x_sum, x_sumT, x_any, x_all, sqB_lst, sqB_tup, x_mSeqB, r1B_, x_mR1, r2B_, x_mR2, x_mEnumL, zpB_l, zpB_t, x_mZip, x_mZipB, zpX_ll, zpX_tt, zpX_tl, zpX_lt, x_rg1, x_rg2, x_mLRg, x_mTRg, x_mLc, wipe1, wipe2, wipe3, x_tTrue, x_fnM, x_pick, x_eqZl, x_neZl, x_eqZt, x_neZt, List.isEmpty_nil, List.isEmpty_cons, deq_ii, x_ite, sizeLine_is, true_and, and_true, forall_const, implies_true, not_true_eq_false, not_false_eq_true, false_implies, true_implies, Bool.true_eq_false, Bool.false_eq_true, decide_eq_true_eq, decide_true, decide_false, Bool.not_true, Bool.not_false, Bool.not_eq_true', decide_eq_false_iff_not, Decidable.not_not, x_flatF, x_mLc2, flat_bl, flat_int, flat_non, x_mR3, r3B_, cast_0, cast_1, cast_2, cast_3, Int.reduceEq, Int.reduceLT, Int.reduceLE, isi_int_non, isi_int_bl, isi_int_int, isi_int_str, isi_int_tup, isi_int_lst, isi_bool_non, isi_bool_bl, isi_bool_int, isi_bool_str, isi_bool_tup, isi_bool_lst, isi_tuple_non, isi_tuple_bl, isi_tuple_int, isi_tuple_str, isi_tuple_tup, isi_tuple_lst, isi_list_non, isi_list_bl, isi_list_int, isi_list_str, isi_list_tup, isi_list_lst, isi_str_non, isi_str_bl, isi_str_int, isi_str_str, isi_str_tup, isi_str_lst, isi_int_dct, isi_bool_dct, isi_tuple_dct, isi_list_dct, isi_str_dct, isi_dict_dct, isNon_dct, isi_q, sqB_q, len_q, isNon_q, q_ix0, q_ix1, q_eq, q_ne, List.length_cons, List.length_nil, Nat.reduceAdd, Nat.reduceLeDiff, Nat.reduceSub, Nat.zero_add, List.set_cons_zero, List.set_cons_succ, List.map_cons, List.map_nil, List.replicate_succ, List.replicate_zero, List.cons_append, List.nil_append, List.length_map, rms_len]
        exact ⟨by omega, key _ _ _ _ _⟩
  · obtain ⟨es, s3, s4, s5, s6, s7, rfl, R⟩ := hI
    rw [List.length_map, Nat.zero_add]
    (try simp only [x_sSq, x_sNx, x_sBk, x_sCt, x_sRet, x_sRetN, x_sIf, x_sAsg, x_sOwn, x_sPar, x_sPar3, x_sPx, x_sPx3, x_sPx4, x_xD, x_xF, x_sDrop, x_sFor, atE0, atES, frz_own, frz_d, frz_u, x_sFrz, slV_d, slV_own, slD_d, slO_own, x_sApp, exB_lst, x_sExt, x_sStx, x_gV, x_gD, x_gN, x_gT, x_gC, x_gE, x_mC, x_mL, x_m1, x_m2, x_mT, bB_bl, iB_int, x_mChain, x_mAnd, x_mOr, x_mNot, x_mAndV, x_mOrV, x_mNotV, x_mIte, x_aN, x_aC, x_mTup, x_mLst, x_mCall, x_add, x_addT, x_addL, x_sub, x_mul, x_div, x_mod, x_pow, x_shl, x_neg, x_lt, x_le, x_gt, x_ge, x_ltB, x_leB, x_gtB, x_geB, x_eq, x_ne, x_eqT, x_neT, x_eqL, x_neL, x_eqS, x_neS, x_eqB, x_neB, x_is, x_isN, x_isB, x_isNB, isNon_non, isNon_int, isNon_tup, isNon_lst, isNon_str, isNon_bl, x_inT, x_inL, x_ninT, x_ninL, x_ix0, x_ix1, x_ix2, x_ixl0, x_ixl1, x_ixl2, x_ixl3, oB_int, x_oN, x_oS, slB_lst, slB_tup, x_mSl, lB_lst, x_mSlF, x_mRev, rvB_lst, rvB_tup, x_mRevB, x_mCatF, x_mRepF, x_mulL, x_mulB, x_mulBT, x_lenL, x_lenT, x_abs, x_int, x_intB, x_max2, x_min2, x_tupL, x_tupT, x_lstL, x_lstT, x_sum, x_sumT, x_any, x_all, sqB_lst, sqB_tup, x_mSeqB, r1B_, x_mR1, r2B_, x_mR2, x_mEnumL, zpB_l, zpB_t, x_mZip, x_mZipB, zpX_ll, zpX_tt, zpX_tl, zpX_lt, x_rg1, x_rg2, x_mLRg, x_mTRg, x_mLc, wipe1, wipe2, wipe3, x_tTrue, x_fnM, x_pick, x_eqZl, x_neZl, x_eqZt, x_neZt, List.isEmpty_nil, List.isEmpty_cons, deq_ii, x_ite, sizeLine_is, true_and, and_true, forall_const, implies_true, not_true_eq_false, not_false_eq_true, false_implies, true_implies, Bool.true_eq_false, Bool.false_eq_true, decide_eq_true_eq, decide_true, decide_false, Bool.not_true, Bool.not_false, Bool.not_eq_true', decide_eq_false_iff_not, Decidable.not_not, x_flatF, x_mLc2, flat_bl, flat_int, flat_non, x_mR3, r3B_, cast_0, cast_1, cast_2, cast_3, Int.reduceEq, Int.reduceLT, Int.reduceLE, isi_int_non, isi_int_bl, isi_int_int, isi_int_str, isi_int_tup, isi_int_lst, isi_bool_non, isi_bool_bl, isi_bool_int, isi_bool_str, isi_bool_tup, isi_bool_lst, isi_tuple_non, isi_tuple_bl, isi_tuple_int, isi_tuple_str, isi_tuple_tup, isi_tuple_lst, isi_list_non, isi_list_bl, isi_list_int, isi_list_str, isi_list_tup, isi_list_lst, isi_str_non, isi_str_bl, isi_str_int, isi_str_str, isi_str_tup, isi_str_lst, isi_int_dct, isi_bool_dct, isi_tuple_dct, isi_list_dct, isi_str_dct, isi_dict_dct, isNon_dct, isi_q, sqB_q, len_q, isNon_q, q_ix0, q_ix1, q_eq, q_ne, List.length_cons, List.length_nil, Nat.reduceAdd, Nat.reduceLeDiff, Nat.reduceSub, Nat.zero_add, List.set_cons_zero, List.set_cons_succ, List.map_cons, List.map_nil, List.replicate_succ, List.replicate_zero, List.cons_append, List.nil_append])
    exact h
theorem rm_ex {sp : List (Int × Int)} (U : Up sp) : ∀ i, i ≤ sp.length → ∃ es, Rm sp i es
  | 0, _ => ⟨[], Rm.zero sp⟩
  | i + 1, h => by
    obtain ⟨es, R⟩ := rm_ex U i (by omega)
    exact ⟨_, (R.step U (by omega)).2.2.2⟩
/-! ### rows of spans -/
def isInt : D → Bool
  | .int _ => true
  | _ => false
def plD : D → Bool
  | .src => false
  | .ty _ => false
  | _ => true
def spPair : D → Bool
  | .tup [.int a, .int b] => decide (a < b)
  | _ => false
structure PlT (d : D) : Prop where
  p : plD d = true
  t : ∀ xs, d = .tup xs → ∀ x ∈ xs, plD x = true
theorem sp_int {d : D} {Q : D → Prop} (h : plD d = true) (q : Q (.bl (isInt d))) :
    mIsi [d, .ty "int"] fun x => bB x fun c => (c = true → mIsi [d, .ty "bool"] fun x => bB x fun c => Q (.bl (!c))) ∧ (¬ c = true → Q (.bl false)) := by
  cases d <;> try (cases h; done)
  all_goals ((try simp only [x_sSq, x_sNx, x_sBk, x_sCt, x_sRet, x_sRetN, x_sIf, x_sAsg, x_sOwn, x_sPar, x_sPar3, x_sPx, x_sPx3, x_sPx4, x_xD, x_xF, x_sDrop, x_sFor, atE0, atES, frz_own, frz_d, frz_u, x_sFrz, slV_d, slV_own, slD_d, slO_own, x_sApp, exB_lst, x_sExt, x_sStx, x_gV, x_gD, x_gN, x_gT, x_gC, x_gE, x_mC, x_mL, x_m1, x_m2, x_mT, bB_bl, iB_int, x_mChain, x_mAnd, x_mOr, x_mNot, x_mAndV, x_mOrV, x_mNotV, x_mIte, x_aN, x_aC, x_mTup, x_mLst, x_mCall, x_add, x_addT, x_addL, x_sub, x_mul, x_div, x_mod, x_pow, x_shl, x_neg, x_lt, x_le, x_gt, x_ge, x_ltB, x_leB, x_gtB, x_geB, x_eq, x_ne, x_eqT, x_neT, x_eqL, x_neL, x_eqS, x_neS, x_eqB, x_neB, x_is, x_isN, x_isB, x_isNB, isNon_non, isNon_int, isNon_tup, isNon_lst, isNon_str, isNon_bl, x_inT, x_inL, x_ninT, x_ninL, x_ix0, x_ix1, x_ix2, x_ixl0, x_ixl1, x_ixl2, x_ixl3, oB_int, x_oN, x_oS, slB_lst, slB_tup, x_mSl, lB_lst, x_mSlF, x_mRev, rvB_lst, rvB_tup, x_mRevB, x_mCatF, x_mRepF, x_mulL, x_mulB, x_mulBT, x_lenL, x_lenT, x_abs, x_int, x_intB, x_max2, x_min2, x_tupL, x_tupT, x_lstL, x_lstT, x_sum, x_sumT, x_any, x_all, sqB_lst, sqB_tup, x_mSeqB, r1B_, x_mR1, r2B_, x_mR2, x_mEnumL, zpB_l, zpB_t, x_mZip, x_mZipB, zpX_ll, zpX_tt, zpX_tl, zpX_lt, x_rg1, x_rg2, x_mLRg, x_mTRg, x_mLc, wipe1, wipe2, wipe3, x_tTrue, x_fnM, x_pick, x_eqZl, x_neZl, x_eqZt, x_neZt, List.isEmpty_nil, List.isEmpty_cons, deq_ii, x_ite, sizeLine_is, true_and, and_true, forall_const, implies_true, not_true_eq_false, not_false_eq_true, false_implies, true_implies, Bool.true_eq_false, Bool.false_eq_true, decide_eq_true_eq, decide_true, decide_false, Bool.not_true, Bool.not_false, Bool.not_eq_true', decide_eq_false_iff_not, Decidable.not_not, x_flatF, x_mLc2, flat_bl, flat_int, flat_non, x_mR3, r3B_, cast_0, cast_1, cast_2, cast_3, Int.reduceEq, Int.reduceLT, Int.reduceLE, isi_int_non, isi_int_bl, isi_int_int, isi_int_str, isi_int_tup, isi_int_lst, isi_bool_non, isi_bool_bl, isi_bool_int, isi_bool_str, isi_bool_tup, isi_bool_lst, isi_tuple_non, isi_tuple_bl, isi_tuple_int, isi_tuple_str, isi_tuple_tup, isi_tuple_lst, isi_list_non, isi_list_bl, isi_list_int, isi_list_str, isi_list_tup, isi_list_lst, isi_str_non, isi_str_bl, isi_str_int, isi_str_str, isi_str_tup, isi_str_lst, isi_int_dct, isi_bool_dct, isi_tuple_dct, isi_list_dct, isi_str_dct, isi_dict_dct, isNon_dct, isi_q, sqB_q, len_q, isNon_q, q_ix0, q_ix1, q_eq, q_ne, List.length_cons, List.length_nil, Nat.reduceAdd, Nat.reduceLeDiff, Nat.reduceSub, Nat.zero_add, List.set_cons_zero, List.set_cons_succ, List.map_cons, List.map_nil, List.replicate_succ, List.replicate_zero, List.cons_append, List.nil_append]); exact q)
theorem sp_pair {d : D} {Q : D → Prop} (h : PlT d) (q : Q (.bl (spPair d))) : f_is_span_pair [d] Q := by
  have hp := h.p
  cases d with
  | tup xs =>
    have ht := h.t xs rfl
    simp only [x_sSq, x_sNx, x_sBk, x_sCt, x_sRet, x_sRetN, x_sIf, x_sAsg, x_sOwn, x_sPar, x_sPar3, x_sPx, x_sPx3, x_sPx4, x_xD, x_xF, x_sDrop, x_sFor, atE0, atES, frz_own, frz_d, frz_u, x_sFrz, slV_d, slV_own, slD_d, slO_own, x_sApp, exB_lst, x_sExt, x_sStx, x_gV, x_gD, x_gN, x_gT, x_gC, x_gE, x_mC, x_mL, x_m1, x_m2, x_mT, bB_bl, iB_int, x_mChain, x_mAnd, x_mOr, x_mNot, x_mAndV, x_mOrV, x_mNotV, x_mIte, x_aN, x_aC, x_mTup, x_mLst, x_mCall, x_add, x_addT, x_addL, x_sub, x_mul, x_div, x_mod, x_pow, x_shl, x_neg, x_lt, x_le, x_gt, x_ge, x_ltB, x_leB, x_gtB, x_geB, x_eq, x_ne, x_eqT, x_neT, x_eqL, x_neL, x_eqS, x_neS, x_eqB, x_neB, x_is, x_isN, x_isB, x_isNB, isNon_non, isNon_int, isNon_tup, isNon_lst, isNon_str, isNon_bl, x_inT, x_inL, x_ninT, x_ninL, x_ix0, x_ix1, x_ix2, x_ixl0, x_ixl1, x_ixl2, x_ixl3, oB_int, x_oN, x_oS, slB_lst, slB_tup, x_mSl, lB_lst, x_mSlF, x_mRev, rvB_lst, rvB_tup, x_mRevB, x_mCatF, x_mRepF, x_mulL, x_mulB, x_mulBT, x_lenL, x_lenT, x_abs, x_int, x_intB, x_max2, x_min2, x_tupL, x_tupT, x_lstL, x_lstT, x_sum, x_sumT, x_any, x_all, sqB_lst, sqB_tup, x_mSeqB, r1B_, x_mR1, r2B_, x_mR2, x_mEnumL, zpB_l, zpB_t, x_mZip, x_mZipB, zpX_ll, zpX_tt, zpX_tl, zpX_lt, x_rg1, x_rg2, x_mLRg, x_mTRg, x_mLc, wipe1, wipe2, wipe3, x_tTrue, x_fnM, x_pick, x_eqZl, x_neZl, x_eqZt, x_neZt, List.isEmpty_nil, List.isEmpty_cons, deq_ii, x_ite, sizeLine_is, true_and, and_true, forall_const, implies_true, not_true_eq_false, not_false_eq_true, false_implies, true_implies, Bool.true_eq_false, Bool.false_eq_true, decide_eq_true_eq, decide_true, decide_false, Bool.not_true, Bool.not_false, Bool.not_eq_true', decide_eq_false_iff_not, Decidable.not_not, x_flatF, x_mLc2, flat_bl, flat_int, flat_non, x_mR3, r3B_, cast_0, cast_1, cast_2, cast_3, Int.reduceEq, Int.reduceLT, Int.reduceLE, isi_int_non, isi_int_bl, isi_int_int, isi_int_str, isi_int_tup, isi_int_lst, isi_bool_non, isi_bool_bl, isi_bool_int, isi_bool_str, isi_bool_tup, isi_bool_lst, isi_tuple_non, isi_tuple_bl, isi_tuple_int, isi_tuple_str, isi_tuple_tup, isi_tuple_lst, isi_list_non, isi_list_bl, isi_list_int, isi_list_str, isi_list_tup, isi_list_lst, isi_str_non, isi_str_bl, isi_str_int, isi_str_str, isi_str_tup, isi_str_lst, isi_int_dct, isi_bool_dct, isi_tuple_dct, isi_list_dct, isi_str_dct, isi_dict_dct, isNon_dct, isi_q, sqB_q, len_q, isNon_q, q_ix0, q_ix1, q_eq, q_ne, List.length_cons, List.length_nil, Nat.reduceAdd, Nat.reduceLeDiff, Nat.reduceSub, Nat.zero_add, List.set_cons_zero, List.set_cons_succ, List.map_cons, List.map_nil, List.replicate_succ, List.replicate_zero, List.cons_append, List.nil_append, f_is_span_pair, b_is_span_pair]
    by_cases hl : xs.length = 2
    · match xs, hl with
      | [x, y], _ =>
        have h1 := ht x List.mem_cons_self
        have h2 := ht y (List.mem_cons_of_mem _ List.mem_cons_self)
        refine ⟨fun n => absurd rfl n, fun _ => ?_⟩
        refine ⟨by omega, lc_mapE (l := [x, y]) (fun d => d) (fun d => .bl (isInt d)) (fun d hd Qy Qn hy => ?_) ?_⟩
        · (try simp only [x_sSq, x_sNx, x_sBk, x_sCt, x_sRet, x_sRetN, x_sIf, x_sAsg, x_sOwn, x_sPar, x_sPar3, x_sPx, x_sPx3, x_sPx4, x_xD, x_xF, x_sDrop, x_sFor, atE0, atES, frz_own, frz_d, frz_u, x_sFrz, slV_d, slV_own, slD_d, slO_own, x_sApp, exB_lst, x_sExt, x_sStx, x_gV, x_gD, x_gN, x_gT, x_gC, x_gE, x_mC, x_mL, x_m1, x_m2, x_mT, bB_bl, iB_int, x_mChain, x_mAnd, x_mOr, x_mNot, x_mAndV, x_mOrV, x_mNotV, x_mIte, x_aN, x_aC, x_mTup, x_mLst, x_mCall, x_add, x_addT, x_addL, x_sub, x_mul, x_div, x_mod, x_pow, x_shl, x_neg, x_lt, x_le, x_gt, x_ge, x_ltB, x_leB, x_gtB, x_geB, x_eq, x_ne, x_eqT, x_neT, x_eqL, x_neL, x_eqS, x_neS, x_eqB, x_neB, x_is, x_isN, x_isB, x_isNB, isNon_non, isNon_int, isNon_tup, isNon_lst, isNon_str, isNon_bl, x_inT, x_inL, x_ninT, x_ninL, x_ix0, x_ix1, x_ix2, x_ixl0, x_ixl1, x_ixl2, x_ixl3, oB_int, x_oN, x_oS, slB_lst, slB_tup, x_mSl, lB_lst, x_mSlF, x_mRev, rvB_lst, rvB_tup, x_mRevB, x_mCatF, x_mRepF, x_mulL, x_mulB, x_mulBT, x_lenL, x_lenT, x_abs, x_int, x_intB, x_max2, x_min2, x_tupL, x_tupT, x_lstL, x_lstT, x_sum, x_sumT, x_any, x_all, sqB_lst, sqB_tup, x_mSeqB, r1B_, x_mR1, r2B_, x_mR2, x_mEnumL, zpB_l, zpB_t, x_mZip, x_mZipB, zpX_ll, zpX_tt, zpX_tl, zpX_lt, x_rg1, x_rg2, x_mLRg, x_mTRg, x_mLc, wipe1, wipe2, wipe3, x_tTrue, x_fnM, x_pick, x_eqZl, x_neZl, x_eqZt, x_neZt, List.isEmpty_nil, List.isEmpty_cons, deq_ii, x_ite, sizeLine_is, true_and, and_true, forall_const, implies_true, not_true_eq_false, not_false_eq_true, false_implies, true_implies, Bool.true_eq_false, Bool.false_eq_true, decide_eq_true_eq, decide_true, decide_false, Bool.not_true, Bool.not_false, Bool.not_eq_true', decide_eq_false_iff_not, Decidable.not_not, x_flatF, x_mLc2, flat_bl, flat_int, flat_non, x_mR3, r3B_, cast_0, cast_1, cast_2, cast_3, Int.reduceEq, Int.reduceLT, Int.reduceLE, isi_int_non, isi_int_bl, isi_int_int, isi_int_str, isi_int_tup, isi_int_lst, isi_bool_non, isi_bool_bl, isi_bool_int, isi_bool_str, isi_bool_tup, isi_bool_lst, isi_tuple_non, isi_tuple_bl, isi_tuple_int, isi_tuple_str, isi_tuple_tup, isi_tuple_lst, isi_list_non, isi_list_bl, isi_list_int, isi_list_str, isi_list_tup, isi_list_lst, isi_str_non, isi_str_bl, isi_str_int, isi_str_str, isi_str_tup, isi_str_lst, isi_int_dct, isi_bool_dct, isi_tuple_dct, isi_list_dct, isi_str_dct, isi_dict_dct, isNon_dct, isi_q, sqB_q, len_q, isNon_q, q_ix0, q_ix1, q_eq, q_ne, List.length_cons, List.length_nil, Nat.reduceAdd, Nat.reduceLeDiff, Nat.reduceSub, Nat.zero_add, List.set_cons_zero, List.set_cons_succ, List.map_cons, List.map_nil, List.replicate_succ, List.replicate_zero, List.cons_append, List.nil_append])
          have hd' : plD d = true := by
            rcases List.mem_cons.mp hd with e | hd
            · rw [e]; exact h1
            · rw [List.mem_singleton.mp hd]; exact h2
          exact sp_int hd' hy
        · have e : [x, y].map (fun d => D.bl (isInt d)) = [isInt x, isInt y].map .bl := rfl
          rw [e, x_all]
          cases x with
          | int a =>
            cases y with
            | int b =>
              simp only [x_sSq, x_sNx, x_sBk, x_sCt, x_sRet, x_sRetN, x_sIf, x_sAsg, x_sOwn, x_sPar, x_sPar3, x_sPx, x_sPx3, x_sPx4, x_xD, x_xF, x_sDrop, x_sFor, atE0, atES, frz_own, frz_d, frz_u, x_sFrz, slV_d, slV_own, slD_d, slO_own, x_sApp, exB_lst, x_sExt, x_sStx, x_gV, x_gD, x_gN, x_gT, x_gC, x_gE, x_mC, x_mL, x_m1, x_m2, x_mT, bB_bl, iB_int, x_mChain, x_mAnd, x_mOr, x_mNot, x_mAndV, x_mOrV, x_mNotV, x_mIte, x_aN, x_aC, x_mTup, x_mLst, x_mCall, x_add, x_addT, x_addL, x_sub, x_mul, x_div, x_mod, x_pow, x_shl, x_neg, x_lt, x_le, x_gt, x_ge, x_ltB, x_leB, x_gtB, x_geB, x_eq, x_ne, x_eqT, x_neT, x_eqL, x_neL, x_eqS, x_neS, x_eqB, x_neB, x_is, x_isN, x_isB, x_isNB, isNon_non, isNon_int, isNon_tup, isNon_lst, isNon_str, isNon_bl, x_inT, x_inL, x_ninT, x_ninL, x_ix0, x_ix1, x_ix2, x_ixl0, x_ixl1, x_ixl2, x_ixl3, oB_int, x_oN, x_oS, slB_lst, slB_tup, x_mSl, lB_lst, x_mSlF, x_mRev, rvB_lst, rvB_tup, x_mRevB, x_mCatF, x_mRepF, x_mulL, x_mulB, x_mulBT, x_lenL, x_lenT, x_abs, x_int, x_intB, x_max2, x_min2, x_tupL, x_tupT, x_lstL, x_lstT, x_sum, x_sumT, x_any, x_all, sqB_lst, sqB_tup, x_mSeqB, r1B_, x_mR1, r2B_, x_mR2, x_mEnumL, zpB_l, zpB_t, x_mZip, x_mZipB, zpX_ll, zpX_tt, zpX_tl, zpX_lt, x_rg1, x_rg2, x_mLRg, x_mTRg, x_mLc, wipe1, wipe2, wipe3, x_tTrue, x_fnM, x_pick, x_eqZl, x_neZl, x_eqZt, x_neZt, List.isEmpty_nil, List.isEmpty_cons, deq_ii, x_ite, sizeLine_is, true_and, and_true, forall_const, implies_true, not_true_eq_false, not_false_eq_true, false_implies, true_implies, Bool.true_eq_false, Bool.false_eq_true, decide_eq_true_eq, decide_true, decide_false, Bool.not_true, Bool.not_false, Bool.not_eq_true', decide_eq_false_iff_not, Decidable.not_not, x_flatF, x_mLc2, flat_bl, flat_int, flat_non, x_mR3, r3B_, cast_0, cast_1, cast_2, cast_3, Int.reduceEq, Int.reduceLT, Int.reduceLE, isi_int_non, isi_int_bl, isi_int_int, isi_int_str, isi_int_tup, isi_int_lst, isi_bool_non, isi_bool_bl, isi_bool_int, isi_bool_str, isi_bool_tup, isi_bool_lst, isi_tuple_non, isi_tuple_bl, isi_tuple_int, isi_tuple_str, isi_tuple_tup, isi_tuple_lst, isi_list_non, isi_list_bl, isi_list_int, isi_list_str, isi_list_tup, isi_list_lst, isi_str_non, isi_str_bl, isi_str_int, isi_str_str, isi_str_tup, isi_str_lst, isi_int_dct, isi_bool_dct, isi_tuple_dct, isi_list_dct, isi_str_dct, isi_dict_dct, isNon_dct, isi_q, sqB_q, len_q, isNon_q, q_ix0, q_ix1, q_eq, q_ne, List.length_cons, List.length_nil, Nat.reduceAdd, Nat.reduceLeDiff, Nat.reduceSub, Nat.zero_add, List.set_cons_zero, List.set_cons_succ, List.map_cons, List.map_nil, List.replicate_succ, List.replicate_zero, List.cons_append, List.nil_append, isInt, List.all_cons, List.all_nil, Bool.and_self, id]
              exact q
            | _ => simp only [x_sSq, x_sNx, x_sBk, x_sCt, x_sRet, x_sRetN, x_sIf, x_sAsg, x_sOwn, x_sPar, x_sPar3, x_sPx, x_sPx3, x_sPx4, x_xD, x_xF, x_sDrop, x_sFor, atE0, atES, frz_own, frz_d, frz_u, x_sFrz, slV_d, slV_own, slD_d, slO_own, x_sApp, exB_lst, x_sExt, x_sStx, x_gV, x_gD, x_gN, x_gT, x_gC, x_gE, x_mC, x_mL, x_m1, x_m2, x_mT, bB_bl, iB_int, x_mChain, x_mAnd, x_mOr, x_mNot, x_mAndV, x_mOrV, x_mNotV, x_mIte, x_aN, x_aC, x_mTup, x_mLst, x_mCall, x_add, x_addT, x_addL, x_sub, x_mul, x_div, x_mod, x_pow, x_shl, x_neg, x_lt, x_le, x_gt, x_ge, x_ltB, x_leB, x_gtB, x_geB, x_eq, x_ne, x_eqT, x_neT, x_eqL, x_neL, x_eqS, x_neS, x_eqB, x_neB, x_is, x_isN, x_isB, x_isNB, isNon_non, isNon_int, isNon_tup, isNon_lst, isNon_str, isNon_bl, x_inT, x_inL, x_ninT, x_ninL, x_ix0, x_ix1, x_ix2, x_ixl0, x_ixl1, x_ixl2, x_ixl3, oB_int, x_oN, x_oS, slB_lst, slB_tup, x_mSl, lB_lst, x_mSlF, x_mRev, rvB_lst, rvB_tup, x_mRevB, x_mCatF, x_mRepF, x_mulL, x_mulB, x_mulBT, x_lenL, x_lenT, x_abs, x_int, x_intB, x_max2, x_min2, x_tupL, x_tupT, x_lstL, x_lstT, x_sum, x_sumT, x_any, x_all, sqB_lst, sqB_tup, x_mSeqB, r1B_, x_mR1, r2B_, x_mR2, x_mEnumL, zpB_l, zpB_t, x_mZip, x_mZipB, zpX_ll, zpX_tt, zpX_tl, zpX_lt, x_rg1, x_rg2, x_mLRg, x_mTRg, x_mLc, wipe1, wipe2, wipe3, x_tTrue, x_fnM, x_pick, x_eqZl, x_neZl, x_eqZt, x_neZt, List.isEmpty_nil, List.isEmpty_cons, deq_ii, x_ite, sizeLine_is, true_and, and_true, forall_const, implies_true, not_true_eq_false, not_false_eq_true, false_implies, true_implies, Bool.true_eq_false, Bool.false_eq_true, decide_eq_true_eq, decide_true, decide_false, Bool.not_true, Bool.not_false, Bool.not_eq_true', decide_eq_false_iff_not, Decidable.not_not, x_flatF, x_mLc2, flat_bl, flat_int, flat_non, x_mR3, r3B_, cast_0, cast_1, cast_2, cast_3, Int.reduceEq, Int.reduceLT, Int.reduceLE, isi_int_non, isi_int_bl, isi_int_int, isi_int_str, isi_int_tup, isi_int_lst, isi_bool_non, isi_bool_bl, isi_bool_int, isi_bool_str, isi_bool_tup, isi_bool_lst, isi_tuple_non, isi_tuple_bl, isi_tuple_int, isi_tuple_str, isi_tuple_tup, isi_tuple_lst, isi_list_non, isi_list_bl, isi_list_int, isi_list_str, isi_list_tup, isi_list_lst, isi_str_non, isi_str_bl, isi_str_int, isi_str_str, isi_str_tup, isi_str_lst, isi_int_dct, isi_bool_dct, isi_tuple_dct, isi_list_dct, isi_str_dct, isi_dict_dct, isNon_dct, isi_q, sqB_q, len_q, isNon_q, q_ix0, q_ix1, q_eq, q_ne, List.length_cons, List.length_nil, Nat.reduceAdd, Nat.reduceLeDiff, Nat.reduceSub, Nat.zero_add, List.set_cons_zero, List.set_cons_succ, List.map_cons, List.map_nil, List.replicate_succ, List.replicate_zero, List.cons_append, List.nil_append, isInt, List.all_cons, List.all_nil, Bool.and_self, id, Bool.and_false, Bool.false_and, Bool.true_and]; exact q
          | _ => simp only [x_sSq, x_sNx, x_sBk, x_sCt, x_sRet, x_sRetN, x_sIf, x_sAsg, x_sOwn, x_sPar, x_sPar3, x_sPx, x_sPx3, x_sPx4, x_xD, x_xF, x_sDrop, x_sFor, atE0, atES, frz_own, frz_d, frz_u, x_sFrz, slV_d, slV_own, slD_d, slO_own, x_sApp, exB_lst, x_sExt, x_sStx, x_gV, x_gD, x_gN, x_gT, x_gC, x_gE, x_mC, x_mL, x_m1, x_m2, x_mT, bB_bl, iB_int, x_mChain, x_mAnd, x_mOr, x_mNot, x_mAndV, x_mOrV, x_mNotV, x_mIte, x_aN, x_aC, x_mTup, x_mLst, x_mCall, x_add, x_addT, x_addL, x_sub, x_mul, x_div, x_mod, x_pow, x_shl, x_neg, x_lt, x_le, x_gt, x_ge, x_ltB, x_leB, x_gtB, x_geB, x_eq, x_ne, x_eqT, x_neT, x_eqL, x_neL, x_eqS, x_neS, x_eqB, x_neB, x_is, x_isN, x_isB, x_isNB, isNon_non, isNon_int, isNon_tup, isNon_lst, isNon_str, isNon_bl, x_inT, x_inL, x_ninT, x_ninL, x_ix0, x_ix1, x_ix2, x_ixl0, x_ixl1, x_ixl2, x_ixl3, oB_int, x_oN, x_oS, slB_lst, slB_tup, x_mSl, lB_lst, x_mSlF, x_mRev, rvB_lst, rvB_tup, x_mRevB, x_mCatF, x_mRepF, x_mulL, x_mulB, x_mulBT, x_lenL, x_lenT, x_abs, x_int, x_intB, x_max2, x_min2, x_tupL, x_tupT, x_lstL, x_lstT, x_sum, x_sumT, x_any, x_all, sqB_lst, sqB_tup, x_mSeqB, r1B_, x_mR1, r2B_, x_mR2, x_mEnumL, zpB_l, zpB_t, x_mZip, x_mZipB, zpX_ll, zpX_tt, zpX_tl, zpX_lt, x_rg1, x_rg2, x_mLRg, x_mTRg, x_mLc, wipe1, wipe2, wipe3, x_tTrue, x_fnM, x_pick, x_eqZl, x_neZl, x_eqZt, x_neZt, List.isEmpty_nil, List.isEmpty_cons, deq_ii, x_ite, sizeLine_is, true_and, and_true, forall_const, implies_true, not_true_eq_false, not_false_eq_true, false_implies, true_implies, Bool.true_eq_false, Bool.false_eq_true, decide_eq_true_eq, decide_true, decide_false, Bool.not_true, Bool.not_false, Bool.not_eq_true', decide_eq_false_iff_not, Decidable.not_not, x_flatF, x_mLc2, flat_bl, flat_int, flat_non, x_mR3, r3B_, cast_0, cast_1, cast_2, cast_3, Int.reduceEq, Int.reduceLT, Int.reduceLE, isi_int_non, isi_int_bl, isi_int_int, isi_int_str, isi_int_tup, isi_int_lst, isi_bool_non, isi_bool_bl, isi_bool_int, isi_bool_str, isi_bool_tup, isi_bool_lst, isi_tuple_non, isi_tuple_bl, isi_tuple_int, isi_tuple_str, isi_tuple_tup, isi_tuple_lst, isi_list_non, isi_list_bl, isi_list_int, isi_list_str, isi_list_tup, isi_list_lst, isi_str_non, isi_str_bl, isi_str_int, isi_str_str, isi_str_tup, isi_str_lst, isi_int_dct, isi_bool_dct, isi_tuple_dct, isi_list_dct, isi_str_dct, isi_dict_dct, isNon_dct, isi_q, sqB_q, len_q, isNon_q, q_ix0, q_ix1, q_eq, q_ne, List.length_cons, List.length_nil, Nat.reduceAdd, Nat.reduceLeDiff, Nat.reduceSub, Nat.zero_add, List.set_cons_zero, List.set_cons_succ, List.map_cons, List.map_nil, List.replicate_succ, List.replicate_zero, List.cons_append, List.nil_append, isInt, List.all_cons, List.all_nil, Bool.and_self, id, Bool.and_false, Bool.false_and]; exact q
    · refine ⟨fun _ => ?_, fun n => ?_⟩
      · have e : spPair (.tup xs) = false := by
          match xs, hl with
          | [], _ => rfl
          | [x], _ => cases x <;> rfl
          | x :: y :: z :: r, _ => cases x <;> cases y <;> rfl
        rw [e] at q
        exact q
      · exact absurd (by omega) hl
  | src => cases hp
  | ty _ => cases hp
  | _ => simp only [x_sSq, x_sNx, x_sBk, x_sCt, x_sRet, x_sRetN, x_sIf, x_sAsg, x_sOwn, x_sPar, x_sPar3, x_sPx, x_sPx3, x_sPx4, x_xD, x_xF, x_sDrop, x_sFor, atE0, atES, frz_own, frz_d, frz_u, x_sFrz, slV_d, slV_own, slD_d, slO_own, x_sApp, exB_lst, x_sExt, x_sStx, x_gV, x_gD, x_gN, x_gT, x_gC, x_gE, x_mC, x_mL, x_m1, x_m2, x_mT, bB_bl, iB_int, x_mChain, x_mAnd, x_mOr, x_mNot, x_mAndV, x_mOrV, x_mNotV, x_mIte, x_aN, x_aC, x_mTup, x_mLst, x_mCall, x_add, x_addT, x_addL, x_sub, x_mul, x_div, x_mod, x_pow, x_shl, x_neg, x_lt, x_le, x_gt, x_ge, x_ltB, x_leB, x_gtB, x_geB, x_eq, x_ne, x_eqT, x_neT, x_eqL, x_neL, x_eqS, x_neS, x_eqB, x_neB, x_is, x_isN, x_isB, x_isNB, isNon_non, isNon_int, isNon_tup, isNon_lst, isNon_str, isNon_bl, x_inT, x_inL, x_ninT, x_ninL, x_ix0, x_ix1, x_ix2, x_ixl0, x_ixl1, x_ixl2, x_ixl3, oB_int, x_oN, x_oS, slB_lst, slB_tup, x_mSl, lB_lst, x_mSlF, x_mRev, rvB_lst, rvB_tup, x_mRevB, x_mCatF, x_mRepF, x_mulL, x_mulB, x_mulBT, x_lenL, x_lenT, x_abs, x_int, x_intB, x_max2, x_min2, x_tupL, x_tupT, x_lstL, x_lstT, x_sum, x_sumT, x_any, x_all, sqB_lst, sqB_tup, x_mSeqB, r1B_, x_mR1, r2B_, x_mR2, x_mEnumL, zpB_l, zpB_t, x_mZip, x_mZipB, zpX_ll, zpX_tt, zpX_tl, zpX_lt, x_rg1, x_rg2, x_mLRg, x_mTRg, x_mLc, wipe1, wipe2, wipe3, x_tTrue, x_fnM, x_pick, x_eqZl, x_neZl, x_eqZt, x_neZt, List.isEmpty_nil, List.isEmpty_cons, deq_ii, x_ite, sizeLine_is, true_and, and_true, forall_const, implies_true, not_true_eq_false, not_false_eq_true, false_implies, true_implies, Bool.true_eq_false, Bool.false_eq_true, decide_eq_true_eq, decide_true, decide_false, Bool.not_true, Bool.not_false, Bool.not_eq_true', decide_eq_false_iff_not, Decidable.not_not, x_flatF, x_mLc2, flat_bl, flat_int, flat_non, x_mR3, r3B_, cast_0, cast_1, cast_2, cast_3, Int.reduceEq, Int.reduceLT, Int.reduceLE, isi_int_non, isi_int_bl, isi_int_int, isi_int_str, isi_int_tup, isi_int_lst, isi_bool_non, isi_bool_bl, isi_bool_int, isi_bool_str, isi_bool_tup, isi_bool_lst, isi_tuple_non, isi_tuple_bl, isi_tuple_int, isi_tuple_str, isi_tuple_tup, isi_tuple_lst, isi_list_non, isi_list_bl, isi_list_int, isi_list_str, isi_list_tup, isi_list_lst, isi_str_non, isi_str_bl, isi_str_int, isi_str_str, isi_str_tup, isi_str_lst, isi_int_dct, isi_bool_dct, isi_tuple_dct, isi_list_dct, isi_str_dct, isi_dict_dct, isNon_dct, isi_q, sqB_q, len_q, isNon_q, q_ix0, q_ix1, q_eq, q_ne, List.length_cons, List.length_nil, Nat.reduceAdd, Nat.reduceLeDiff, Nat.reduceSub, Nat.zero_add, List.set_cons_zero, List.set_cons_succ, List.map_cons, List.map_nil, List.replicate_succ, List.replicate_zero, List.cons_append, List.nil_append, f_is_span_pair, b_is_span_pair]; exact q
def adj (l : List (Int × Int)) : Bool := (l.zip l.tail).all fun p => decide (p.1.1 ≤ p.2.1)
theorem pl_fr (x : Int × Int) : PlT (fr x) := ⟨rfl, fun xs e y hy => by
  have e : D.tup [.int x.1, .int x.2] = .tup xs := e
  cases e
  rcases List.mem_cons.mp hy with e | hy
  · rw [e]; rfl
  · rw [List.mem_singleton.mp hy]; rfl⟩
/-- a row whose parts are all spans -/
theorem sp_row {l : List (Int × Int)} {Q : D → Prop} (hl : l.length ≤ 1000) (hp : ∀ x ∈ l, x.1 < x.2) (q : Q (.bl (adj l))) : f_is_span_row [.tup (l.map fr)] Q := by
  simp only [x_sSq, x_sNx, x_sBk, x_sCt, x_sRet, x_sRetN, x_sIf, x_sAsg, x_sOwn, x_sPar, x_sPar3, x_sPx, x_sPx3, x_sPx4, x_xD, x_xF, x_sDrop, x_sFor, atE0, atES, frz_own, frz_d, frz_u, x_sFrz, slV_d, slV_own, slD_d, slO_own, x_sApp, exB_lst, x_sExt, x_sStx, x_gV, x_gD, x_gN, x_gT, x_gC, x_gE, x_mC, x_mL, x_m1, x_m2, x_mT, bB_bl, iB_int, x_mChain, x_mAnd, x_mOr, x_mNot, x_mAndV, x_mOrV, x_mNotV, x_mIte, x_aN, x_aC, x_mTup, x_mLst, x_mCall, x_add, x_addT, x_addL, x_sub, x_mul, x_div, x_mod, x_pow, x_shl, x_neg, x_lt, x_le, x_gt, x_ge, x_ltB, x_leB, x_gtB, x_geB, x_eq, x_ne, x_eqT, x_neT, x_eqL, x_neL, x_eqS, x_neS, x_eqB, x_neB, x_is, x_isN, x_isB, x_isNB, isNon_non, isNon_int, isNon_tup, isNon_lst, isNon_str, isNon_bl, x_inT, x_inL, x_ninT, x_ninL, x_ix0, x_ix1, x_ix2, x_ixl0, x_ixl1, x_ixl2, x_ixl3, oB_int, x_oN, x_oS, slB_lst, slB_tup, x_mSl, lB_lst, x_mSlF, x_mRev, rvB_lst, rvB_tup, x_mRevB, x_mCatF, x_mRepF, x_mulL, x_mulB, x_mulBT, x_lenL, x_lenT, x_abs, x_int, x_intB, x_max2, x_min2, x_tupL, x_tupT, x_lstL, x_lstT, x_sum, x_sumT, x_any, x_all, sqB_lst, sqB_tup, x_mSeqB, r1B_, x_mR1, r2B_, x_mR2, x_mEnumL, zpB_l, zpB_t, x_mZip, x_mZipB, zpX_ll, zpX_tt, zpX_tl, zpX_lt, x_rg1, x_rg2, x_mLRg, x_mTRg, x_mLc, wipe1, wipe2, wipe3, x_tTrue, x_fnM, x_pick, x_eqZl, x_neZl, x_eqZt, x_neZt, List.isEmpty_nil, List.isEmpty_cons, deq_ii, x_ite, sizeLine_is, true_and, and_true, forall_const, implies_true, not_true_eq_false, not_false_eq_true, false_implies, true_implies, Bool.true_eq_false, Bool.false_eq_true, decide_eq_true_eq, decide_true, decide_false, Bool.not_true, Bool.not_false, Bool.not_eq_true', decide_eq_false_iff_not, Decidable.not_not, x_flatF, x_mLc2, flat_bl, flat_int, flat_non, x_mR3, r3B_, cast_0, cast_1, cast_2, cast_3, Int.reduceEq, Int.reduceLT, Int.reduceLE, isi_int_non, isi_int_bl, isi_int_int, isi_int_str, isi_int_tup, isi_int_lst, isi_bool_non, isi_bool_bl, isi_bool_int, isi_bool_str, isi_bool_tup, isi_bool_lst, isi_tuple_non, isi_tuple_bl, isi_tuple_int, isi_tuple_str, isi_tuple_tup, isi_tuple_lst, isi_list_non, isi_list_bl, isi_list_int, isi_list_str, isi_list_tup, isi_list_lst, isi_str_non, isi_str_bl, isi_str_int, isi_str_str, isi_str_tup, isi_str_lst, isi_int_dct, isi_bool_dct, isi_tuple_dct, isi_list_dct, isi_str_dct, isi_dict_dct, isNon_dct, isi_q, sqB_q, len_q, isNon_q, q_ix0, q_ix1, q_eq, q_ne, List.length_cons, List.length_nil, Nat.reduceAdd, Nat.reduceLeDiff, Nat.reduceSub, Nat.zero_add, List.set_cons_zero, List.set_cons_succ, List.map_cons, List.map_nil, List.replicate_succ, List.replicate_zero, List.cons_append, List.nil_append, f_is_span_row, b_is_span_row, List.length_map]
  refine ⟨by omega, lc_mapE fr (fun _ => .bl true) (fun x hx Qy Qn hy => ?_) ?_⟩
  · (try simp only [x_sSq, x_sNx, x_sBk, x_sCt, x_sRet, x_sRetN, x_sIf, x_sAsg, x_sOwn, x_sPar, x_sPar3, x_sPx, x_sPx3, x_sPx4, x_xD, x_xF, x_sDrop, x_sFor, atE0, atES, frz_own, frz_d, frz_u, x_sFrz, slV_d, slV_own, slD_d, slO_own, x_sApp, exB_lst, x_sExt, x_sStx, x_gV, x_gD, x_gN, x_gT, x_gC, x_gE, x_mC, x_mL, x_m1, x_m2, x_mT, bB_bl, iB_int, x_mChain, x_mAnd, x_mOr, x_mNot, x_mAndV, x_mOrV, x_mNotV, x_mIte, x_aN, x_aC, x_mTup, x_mLst, x_mCall, x_add, x_addT, x_addL, x_sub, x_mul, x_div, x_mod, x_pow, x_shl, x_neg, x_lt, x_le, x_gt, x_ge, x_ltB, x_leB, x_gtB, x_geB, x_eq, x_ne, x_eqT, x_neT, x_eqL, x_neL, x_eqS, x_neS, x_eqB, x_neB, x_is, x_isN, x_isB, x_isNB, isNon_non, isNon_int, isNon_tup, isNon_lst, isNon_str, isNon_bl, x_inT, x_inL, x_ninT, x_ninL, x_ix0, x_ix1, x_ix2, x_ixl0, x_ixl1, x_ixl2, x_ixl3, oB_int, x_oN, x_oS, slB_lst, slB_tup, x_mSl, lB_lst, x_mSlF, x_mRev, rvB_lst, rvB_tup, x_mRevB, x_mCatF, x_mRepF, x_mulL, x_mulB, x_mulBT, x_lenL, x_lenT, x_abs, x_int, x_intB, x_max2, x_min2, x_tupL, x_tupT, x_lstL, x_lstT, x_sum, x_sumT, x_any, x_all, sqB_lst, sqB_tup, x_mSeqB, r1B_, x_mR1, r2B_, x_mR2, x_mEnumL, zpB_l, zpB_t, x_mZip, x_mZipB, zpX_ll, zpX_tt, zpX_tl, zpX_lt, x_rg1, x_rg2, x_mLRg, x_mTRg, x_mLc, wipe1, wipe2, wipe3, x_tTrue, x_fnM, x_pick, x_eqZl, x_neZl, x_eqZt, x_neZt, List.isEmpty_nil, List.isEmpty_cons, deq_ii, x_ite, sizeLine_is, true_and, and_true, forall_const, implies_true, not_true_eq_false, not_false_eq_true, false_implies, true_implies, Bool.true_eq_false, Bool.false_eq_true, decide_eq_true_eq, decide_true, decide_false, Bool.not_true, Bool.not_false, Bool.not_eq_true', decide_eq_false_iff_not, Decidable.not_not, x_flatF, x_mLc2, flat_bl, flat_int, flat_non, x_mR3, r3B_, cast_0, cast_1, cast_2, cast_3, Int.reduceEq, Int.reduceLT, Int.reduceLE, isi_int_non, isi_int_bl, isi_int_int, isi_int_str, isi_int_tup, isi_int_lst, isi_bool_non, isi_bool_bl, isi_bool_int, isi_bool_str, isi_bool_tup, isi_bool_lst, isi_tuple_non, isi_tuple_bl, isi_tuple_int, isi_tuple_str, isi_tuple_tup, isi_tuple_lst, isi_list_non, isi_list_bl, isi_list_int, isi_list_str, isi_list_tup, isi_list_lst, isi_str_non, isi_str_bl, isi_str_int, isi_str_str, isi_str_tup, isi_str_lst, isi_int_dct, isi_bool_dct, isi_tuple_dct, isi_list_dct, isi_str_dct, isi_dict_dct, isNon_dct, isi_q, sqB_q, len_q, isNon_q, q_ix0, q_ix1, q_eq, q_ne, List.length_cons, List.length_nil, Nat.reduceAdd, Nat.reduceLeDiff, Nat.reduceSub, Nat.zero_add, List.set_cons_zero, List.set_cons_succ, List.map_cons, List.map_nil, List.replicate_succ, List.replicate_zero, List.cons_append, List.nil_append])
    refine sp_pair (pl_fr x) ?_
    have e : spPair (fr x) = true := decide_eq_true (hp x hx)
    rw [e]
    exact hy
  · have e : l.map (fun _ => D.bl true) = (l.map fun _ => true).map .bl := by rw [List.map_map]; rfl
    have e2 : (l.map fun _ => true).all id = true := by simp
    rw [e, x_all, e2]
    have e3 : cutD (l.map fr) (some 1) none = l.tail.map fr := by
      cases l with
      | nil => rfl
      | cons x xs =>
        rw [show (1 : Int) = ((1 : Nat) : Int) from rfl, cut_fr (by simp)]
        rfl
    simp only [x_sSq, x_sNx, x_sBk, x_sCt, x_sRet, x_sRetN, x_sIf, x_sAsg, x_sOwn, x_sPar, x_sPar3, x_sPx, x_sPx3, x_sPx4, x_xD, x_xF, x_sDrop, x_sFor, atE0, atES, frz_own, frz_d, frz_u, x_sFrz, slV_d, slV_own, slD_d, slO_own, x_sApp, exB_lst, x_sExt, x_sStx, x_gV, x_gD, x_gN, x_gT, x_gC, x_gE, x_mC, x_mL, x_m1, x_m2, x_mT, bB_bl, iB_int, x_mChain, x_mAnd, x_mOr, x_mNot, x_mAndV, x_mOrV, x_mNotV, x_mIte, x_aN, x_aC, x_mTup, x_mLst, x_mCall, x_add, x_addT, x_addL, x_sub, x_mul, x_div, x_mod, x_pow, x_shl, x_neg, x_lt, x_le, x_gt, x_ge, x_ltB, x_leB, x_gtB, x_geB, x_eq, x_ne, x_eqT, x_neT, x_eqL, x_neL, x_eqS, x_neS, x_eqB, x_neB, x_is, x_isN, x_isB, x_isNB, isNon_non, isNon_int, isNon_tup, isNon_lst, isNon_str, isNon_bl, x_inT, x_inL, x_ninT, x_ninL, x_ix0, x_ix1, x_ix2, x_ixl0, x_ixl1, x_ixl2, x_ixl3, oB_int, x_oN, x_oS, slB_lst, slB_tup, x_mSl, lB_lst, x_mSlF, x_mRev, rvB_lst, rvB_tup, x_mRevB, x_mCatF, x_mRepF, x_mulL, x_mulB, x_mulBT, x_lenL, x_lenT, x_abs, x_int, x_intB, x_max2, x_min2, x_tupL, x_tupT, x_lstL, x_lstT, x_sum, x_sumT, x_any, x_all, sqB_lst, sqB_tup, x_mSeqB, r1B_, x_mR1, r2B_, x_mR2, x_mEnumL, zpB_l, zpB_t, x_mZip, x_mZipB, zpX_ll, zpX_tt, zpX_tl, zpX_lt, x_rg1, x_rg2, x_mLRg, x_mTRg, x_mLc, wipe1, wipe2, wipe3, x_tTrue, x_fnM, x_pick, x_eqZl, x_neZl, x_eqZt, x_neZt, List.isEmpty_nil, List.isEmpty_cons, deq_ii, x_ite, sizeLine_is, true_and, and_true, forall_const, implies_true, not_true_eq_false, not_false_eq_true, false_implies, true_implies, Bool.true_eq_false, Bool.false_eq_true, decide_eq_true_eq, decide_true, decide_false, Bool.not_true, Bool.not_false, Bool.not_eq_true', decide_eq_false_iff_not, Decidable.not_not, x_flatF, x_mLc2, flat_bl, flat_int, flat_non, x_mR3, r3B_, cast_0, cast_1, cast_2, cast_3, Int.reduceEq, Int.reduceLT, Int.reduceLE, isi_int_non, isi_int_bl, isi_int_int, isi_int_str, isi_int_tup, isi_int_lst, isi_bool_non, isi_bool_bl, isi_bool_int, isi_bool_str, isi_bool_tup, isi_bool_lst, isi_tuple_non, isi_tuple_bl, isi_tuple_int, isi_tuple_str, isi_tuple_tup, isi_tuple_lst, isi_list_non, isi_list_bl, isi_list_int, isi_list_str, isi_list_tup, isi_list_lst, isi_str_non, isi_str_bl, isi_str_int, isi_str_str, isi_str_tup, isi_str_lst, isi_int_dct, isi_bool_dct, isi_tuple_dct, isi_list_dct, isi_str_dct, isi_dict_dct, isNon_dct, isi_q, sqB_q, len_q, isNon_q, q_ix0, q_ix1, q_eq, q_ne, List.length_cons, List.length_nil, Nat.reduceAdd, Nat.reduceLeDiff, Nat.reduceSub, Nat.zero_add, List.set_cons_zero, List.set_cons_succ, List.map_cons, List.map_nil, List.replicate_succ, List.replicate_zero, List.cons_append, List.nil_append, e3]
    rw [zip_map]
    rw [List.length_map]
    refine ⟨?_, lc_mapE (fun p : (Int × Int) × (Int × Int) => D.tup [fr p.1, fr p.2]) (fun p => .bl (decide (p.1.1 ≤ p.2.1))) (fun p hp Qy Qn hy => ?_) ?_⟩
    · rw [List.length_zip]
      omega
    · simp only [x_sSq, x_sNx, x_sBk, x_sCt, x_sRet, x_sRetN, x_sIf, x_sAsg, x_sOwn, x_sPar, x_sPar3, x_sPx, x_sPx3, x_sPx4, x_xD, x_xF, x_sDrop, x_sFor, atE0, atES, frz_own, frz_d, frz_u, x_sFrz, slV_d, slV_own, slD_d, slO_own, x_sApp, exB_lst, x_sExt, x_sStx, x_gV, x_gD, x_gN, x_gT, x_gC, x_gE, x_mC, x_mL, x_m1, x_m2, x_mT, bB_bl, iB_int, x_mChain, x_mAnd, x_mOr, x_mNot, x_mAndV, x_mOrV, x_mNotV, x_mIte, x_aN, x_aC, x_mTup, x_mLst, x_mCall, x_add, x_addT, x_addL, x_sub, x_mul, x_div, x_mod, x_pow, x_shl, x_neg, x_lt, x_le, x_gt, x_ge, x_ltB, x_leB, x_gtB, x_geB, x_eq, x_ne, x_eqT, x_neT, x_eqL, x_neL, x_eqS, x_neS, x_eqB, x_neB, x_is, x_isN, x_isB, x_isNB, isNon_non, isNon_int, isNon_tup, isNon_lst, isNon_str, isNon_bl, x_inT, x_inL, x_ninT, x_ninL, x_ix0, x_ix1, x_ix2, x_ixl0, x_ixl1, x_ixl2, x_ixl3, oB_int, x_oN, x_oS, slB_lst, slB_tup, x_mSl, lB_lst, x_mSlF, x_mRev, rvB_lst, rvB_tup, x_mRevB, x_mCatF, x_mRepF, x_mulL, x_mulB, x_mulBT, x_lenL, x_lenT, x_abs, x_int, x_intB, x_max2, x_min2, x_tupL, x_tupT, x_lstL, x_lstT, x_sum, x_sumT, x_any, x_all, sqB_lst, sqB_tup, x_mSeqB, r1B_, x_mR1, r2B_, x_mR2, x_mEnumL, zpB_l, zpB_t, x_mZip, x_mZipB, zpX_ll, zpX_tt, zpX_tl, zpX_lt, x_rg1, x_rg2, x_mLRg, x_mTRg, x_mLc, wipe1, wipe2, wipe3, x_tTrue, x_fnM, x_pick, x_eqZl, x_neZl, x_eqZt, x_neZt, List.isEmpty_nil, List.isEmpty_cons, deq_ii, x_ite, sizeLine_is, true_and, and_true, forall_const, implies_true, not_true_eq_false, not_false_eq_true, false_implies, true_implies, Bool.true_eq_false, Bool.false_eq_true, decide_eq_true_eq, decide_true, decide_false, Bool.not_true, Bool.not_false, Bool.not_eq_true', decide_eq_false_iff_not, Decidable.not_not, x_flatF, x_mLc2, flat_bl, flat_int, flat_non, x_mR3, r3B_, cast_0, cast_1, cast_2, cast_3, Int.reduceEq, Int.reduceLT, Int.reduceLE, isi_int_non, isi_int_bl, isi_int_int, isi_int_str, isi_int_tup, isi_int_lst, isi_bool_non, isi_bool_bl, isi_bool_int, isi_bool_str, isi_bool_tup, isi_bool_lst, isi_tuple_non, isi_tuple_bl, isi_tuple_int, isi_tuple_str, isi_tuple_tup, isi_tuple_lst, isi_list_non, isi_list_bl, isi_list_int, isi_list_str, isi_list_tup, isi_list_lst, isi_str_non, isi_str_bl, isi_str_int, isi_str_str, isi_str_tup, isi_str_lst, isi_int_dct, isi_bool_dct, isi_tuple_dct, isi_list_dct, isi_str_dct, isi_dict_dct, isNon_dct, isi_q, sqB_q, len_q, isNon_q, q_ix0, q_ix1, q_eq, q_ne, List.length_cons, List.length_nil, Nat.reduceAdd, Nat.reduceLeDiff, Nat.reduceSub, Nat.zero_add, List.set_cons_zero, List.set_cons_succ, List.map_cons, List.map_nil, List.replicate_succ, List.replicate_zero, List.cons_append, List.nil_append, fr]
      exact hy
    · have e4 : (l.zip l.tail).map (fun p => D.bl (decide (p.1.1 ≤ p.2.1))) = ((l.zip l.tail).map fun p => decide (p.1.1 ≤ p.2.1)).map .bl := by rw [List.map_map]; rfl
      rw [e4, x_all, List.all_map]
      exact q
/-- no tuple, or a part that is no span -/
theorem sp_row_no {d : D} {Q : D → Prop} (h : plD d = true) (ht : ∀ xs, d = .tup xs → xs.length ≤ 1000 ∧ (∀ x ∈ xs, PlT x) ∧ xs.all spPair = false) (q : Q (.bl false)) : f_is_span_row [d] Q := by
  cases d with
  | tup xs =>
    obtain ⟨hl, h1, h2⟩ := ht xs rfl
    simp only [x_sSq, x_sNx, x_sBk, x_sCt, x_sRet, x_sRetN, x_sIf, x_sAsg, x_sOwn, x_sPar, x_sPar3, x_sPx, x_sPx3, x_sPx4, x_xD, x_xF, x_sDrop, x_sFor, atE0, atES, frz_own, frz_d, frz_u, x_sFrz, slV_d, slV_own, slD_d, slO_own, x_sApp, exB_lst, x_sExt, x_sStx, x_gV, x_gD, x_gN, x_gT, x_gC, x_gE, x_mC, x_mL, x_m1, x_m2, x_mT, bB_bl, iB_int, x_mChain, x_mAnd, x_mOr, x_mNot, x_mAndV, x_mOrV, x_mNotV, x_mIte, x_aN, x_aC, x_mTup, x_mLst, x_mCall, x_add, x_addT, x_addL, x_sub, x_mul, x_div, x_mod, x_pow, x_shl, x_neg, x_lt, x_le, x_gt, x_ge, x_ltB, x_leB, x_gtB, x_geB, x_eq, x_ne, x_eqT, x_neT, x_eqL, x_neL, x_eqS, x_neS, x_eqB, x_neB, x_is, x_isN, x_isB, x_isNB, isNon_non, isNon_int, isNon_tup, isNon_lst, isNon_str, isNon_bl, x_inT, x_inL, x_ninT, x_ninL, x_ix0, x_ix1, x_ix2, x_ixl0, x_ixl1, x_ixl2, x_ixl3, oB_int, x_oN, x_oS, slB_lst, slB_tup, x_mSl, lB_lst, x_mSlF, x_mRev, rvB_lst, rvB_tup, x_mRevB, x_mCatF, x_mRepF, x_mulL, x_mulB, x_mulBT, x_lenL, x_lenT, x_abs, x_int, x_intB, x_max2, x_min2, x_tupL, x_tupT, x_lstL, x_lstT, x_sum, x_sumT, x_any, x_all, sqB_lst, sqB_tup, x_mSeqB, r1B_, x_mR1, r2B_, x_mR2, x_mEnumL, zpB_l, zpB_t, x_mZip, x_mZipB, zpX_ll, zpX_tt, zpX_tl, zpX_lt, x_rg1, x_rg2, x_mLRg, x_mTRg, x_mLc, wipe1, wipe2, wipe3, x_tTrue, x_fnM, x_pick, x_eqZl, x_neZl, x_eqZt, x_neZt, List.isEmpty_nil, List.isEmpty_cons, deq_ii, x_ite, sizeLine_is, true_and, and_true, forall_const, implies_true, not_true_eq_false, not_false_eq_true, false_implies, true_implies, Bool.true_eq_false, Bool.false_eq_true, decide_eq_true_eq, decide_true, decide_false, Bool.not_true, Bool.not_false, Bool.not_eq_true', decide_eq_false_iff_not, Decidable.not_not, x_flatF, x_mLc2, flat_bl, flat_int, flat_non, x_mR3, r3B_, cast_0, cast_1, cast_2, cast_3, Int.reduceEq, Int.reduceLT, Int.reduceLE, isi_int_non, isi_int_bl, isi_int_int, isi_int_str, isi_int_tup, isi_int_lst, isi_bool_non, isi_bool_bl, isi_bool_int, isi_bool_str, isi_bool_tup, isi_bool_lst, isi_tuple_non, isi_tuple_bl, isi_tuple_int, isi_tuple_str, isi_tuple_tup, isi_tuple_lst, isi_list_non, isi_list_bl, isi_list_int, isi_list_str, isi_list_tup, isi_list_lst, isi_str_non, isi_str_bl, isi_str_int, isi_str_str, isi_str_tup, isi_str_lst, isi_int_dct, isi_bool_dct, isi_tuple_dct, isi_list_dct, isi_str_dct, isi_dict_dct, isNon_dct, isi_q, sqB_q, len_q, isNon_q, q_ix0, q_ix1, q_eq, q_ne, List.length_cons, List.length_nil, Nat.reduceAdd, Nat.reduceLeDiff, Nat.reduceSub, Nat.zero_add, List.set_cons_zero, List.set_cons_succ, List.map_cons, List.map_nil, List.replicate_succ, List.replicate_zero, List.cons_append, List.nil_append, f_is_span_row, b_is_span_row]
    have e0 : xs = xs.map fun d => d := by simp
    refine ⟨by omega, ?_⟩
    rw [e0]
    refine lc_mapE (fun d => d) (fun d => .bl (spPair d)) (fun x hx Qy Qn hy => ?_) ?_
    · (try simp only [x_sSq, x_sNx, x_sBk, x_sCt, x_sRet, x_sRetN, x_sIf, x_sAsg, x_sOwn, x_sPar, x_sPar3, x_sPx, x_sPx3, x_sPx4, x_xD, x_xF, x_sDrop, x_sFor, atE0, atES, frz_own, frz_d, frz_u, x_sFrz, slV_d, slV_own, slD_d, slO_own, x_sApp, exB_lst, x_sExt, x_sStx, x_gV, x_gD, x_gN, x_gT, x_gC, x_gE, x_mC, x_mL, x_m1, x_m2, x_mT, bB_bl, iB_int, x_mChain, x_mAnd, x_mOr, x_mNot, x_mAndV, x_mOrV, x_mNotV, x_mIte, x_aN, x_aC, x_mTup, x_mLst, x_mCall, x_add, x_addT, x_addL, x_sub, x_mul, x_div, x_mod, x_pow, x_shl, x_neg, x_lt, x_le, x_gt, x_ge, x_ltB, x_leB, x_gtB, x_geB, x_eq, x_ne, x_eqT, x_neT, x_eqL, x_neL, x_eqS, x_neS, x_eqB, x_neB, x_is, x_isN, x_isB, x_isNB, isNon_non, isNon_int, isNon_tup, isNon_lst, isNon_str, isNon_bl, x_inT, x_inL, x_ninT, x_ninL, x_ix0, x_ix1, x_ix2, x_ixl0, x_ixl1, x_ixl2, x_ixl3, oB_int, x_oN, x_oS, slB_lst, slB_tup, x_mSl, lB_lst, x_mSlF, x_mRev, rvB_lst, rvB_tup, x_mRevB, x_mCatF, x_mRepF, x_mulL, x_mulB, x_mulBT, x_lenL, x_lenT, x_abs, x_int, x_intB, x_max2, x_min2, x_tupL, x_tupT, x_lstL, x_lstT, x_sum, x_sumT, x_any, x_all, sqB_lst, sqB_tup, x_mSeqB, r1B_, x_mR1, r2B_, x_mR2, x_mEnumL, zpB_l, zpB_t, x_mZip, x_mZipB, zpX_ll, zpX_tt, zpX_tl, zpX_lt, x_rg1, x_rg2, x_mLRg, x_mTRg, x_mLc, wipe1, wipe2, wipe3, x_tTrue, x_fnM, x_pick, x_eqZl, x_neZl, x_eqZt, x_neZt, List.isEmpty_nil, List.isEmpty_cons, deq_ii, x_ite, sizeLine_is, true_and, and_true, forall_const, implies_true, not_true_eq_false, not_false_eq_true, false_implies, true_implies, Bool.true_eq_false, Bool.false_eq_true, decide_eq_true_eq, decide_true, decide_false, Bool.not_true, Bool.not_false, Bool.not_eq_true', decide_eq_false_iff_not, Decidable.not_not, x_flatF, x_mLc2, flat_bl, flat_int, flat_non, x_mR3, r3B_, cast_0, cast_1, cast_2, cast_3, Int.reduceEq, Int.reduceLT, Int.reduceLE, isi_int_non, isi_int_bl, isi_int_int, isi_int_str, isi_int_tup, isi_int_lst, isi_bool_non, isi_bool_bl, isi_bool_int, isi_bool_str, isi_bool_tup, isi_bool_lst, isi_tuple_non, isi_tuple_bl, isi_tuple_int, isi_tuple_str, isi_tuple_tup, isi_tuple_lst, isi_list_non, isi_list_bl, isi_list_int, isi_list_str, isi_list_tup, isi_list_lst, isi_str_non, isi_str_bl, isi_str_int, isi_str_str, isi_str_tup, isi_str_lst, isi_int_dct, isi_bool_dct, isi_tuple_dct, isi_list_dct, isi_str_dct, isi_dict_dct, isNon_dct, isi_q, sqB_q, len_q, isNon_q, q_ix0, q_ix1, q_eq, q_ne, List.length_cons, List.length_nil, Nat.reduceAdd, Nat.reduceLeDiff, Nat.reduceSub, Nat.zero_add, List.set_cons_zero, List.set_cons_succ, List.map_cons, List.map_nil, List.replicate_succ, List.replicate_zero, List.cons_append, List.nil_append])
      exact sp_pair (h1 x hx) hy
    · have e : xs.map (fun d => D.bl (spPair d)) = (xs.map spPair).map .bl := by rw [List.map_map]; rfl
      have e2 : (xs.map spPair).all id = false := by rw [List.all_map]; exact h2
      rw [e, x_all, e2]
      (try simp only [x_sSq, x_sNx, x_sBk, x_sCt, x_sRet, x_sRetN, x_sIf, x_sAsg, x_sOwn, x_sPar, x_sPar3, x_sPx, x_sPx3, x_sPx4, x_xD, x_xF, x_sDrop, x_sFor, atE0, atES, frz_own, frz_d, frz_u, x_sFrz, slV_d, slV_own, slD_d, slO_own, x_sApp, exB_lst, x_sExt, x_sStx, x_gV, x_gD, x_gN, x_gT, x_gC, x_gE, x_mC, x_mL, x_m1, x_m2, x_mT, bB_bl, iB_int, x_mChain, x_mAnd, x_mOr, x_mNot, x_mAndV, x_mOrV, x_mNotV, x_mIte, x_aN, x_aC, x_mTup, x_mLst, x_mCall, x_add, x_addT, x_addL, x_sub, x_mul, x_div, x_mod, x_pow, x_shl, x_neg, x_lt, x_le, x_gt, x_ge, x_ltB, x_leB, x_gtB, x_geB, x_eq, x_ne, x_eqT, x_neT, x_eqL, x_neL, x_eqS, x_neS, x_eqB, x_neB, x_is, x_isN, x_isB, x_isNB, isNon_non, isNon_int, isNon_tup, isNon_lst, isNon_str, isNon_bl, x_inT, x_inL, x_ninT, x_ninL, x_ix0, x_ix1, x_ix2, x_ixl0, x_ixl1, x_ixl2, x_ixl3, oB_int, x_oN, x_oS, slB_lst, slB_tup, x_mSl, lB_lst, x_mSlF, x_mRev, rvB_lst, rvB_tup, x_mRevB, x_mCatF, x_mRepF, x_mulL, x_mulB, x_mulBT, x_lenL, x_lenT, x_abs, x_int, x_intB, x_max2, x_min2, x_tupL, x_tupT, x_lstL, x_lstT, x_sum, x_sumT, x_any, x_all, sqB_lst, sqB_tup, x_mSeqB, r1B_, x_mR1, r2B_, x_mR2, x_mEnumL, zpB_l, zpB_t, x_mZip, x_mZipB, zpX_ll, zpX_tt, zpX_tl, zpX_lt, x_rg1, x_rg2, x_mLRg, x_mTRg, x_mLc, wipe1, wipe2, wipe3, x_tTrue, x_fnM, x_pick, x_eqZl, x_neZl, x_eqZt, x_neZt, List.isEmpty_nil, List.isEmpty_cons, deq_ii, x_ite, sizeLine_is, true_and, and_true, forall_const, implies_true, not_true_eq_false, not_false_eq_true, false_implies, true_implies, Bool.true_eq_false, Bool.false_eq_true, decide_eq_true_eq, decide_true, decide_false, Bool.not_true, Bool.not_false, Bool.not_eq_true', decide_eq_false_iff_not, Decidable.not_not, x_flatF, x_mLc2, flat_bl, flat_int, flat_non, x_mR3, r3B_, cast_0, cast_1, cast_2, cast_3, Int.reduceEq, Int.reduceLT, Int.reduceLE, isi_int_non, isi_int_bl, isi_int_int, isi_int_str, isi_int_tup, isi_int_lst, isi_bool_non, isi_bool_bl, isi_bool_int, isi_bool_str, isi_bool_tup, isi_bool_lst, isi_tuple_non, isi_tuple_bl, isi_tuple_int, isi_tuple_str, isi_tuple_tup, isi_tuple_lst, isi_list_non, isi_list_bl, isi_list_int, isi_list_str, isi_list_tup, isi_list_lst, isi_str_non, isi_str_bl, isi_str_int, isi_str_str, isi_str_tup, isi_str_lst, isi_int_dct, isi_bool_dct, isi_tuple_dct, isi_list_dct, isi_str_dct, isi_dict_dct, isNon_dct, isi_q, sqB_q, len_q, isNon_q, q_ix0, q_ix1, q_eq, q_ne, List.length_cons, List.length_nil, Nat.reduceAdd, Nat.reduceLeDiff, Nat.reduceSub, Nat.zero_add, List.set_cons_zero, List.set_cons_succ, List.map_cons, List.map_nil, List.replicate_succ, List.replicate_zero, List.cons_append, List.nil_append])
      exact q
  | src => cases h
  | ty _ => cases h
  | _ => simp only [x_sSq, x_sNx, x_sBk, x_sCt, x_sRet, x_sRetN, x_sIf, x_sAsg, x_sOwn, x_sPar, x_sPar3, x_sPx, x_sPx3, x_sPx4, x_xD, x_xF, x_sDrop, x_sFor, atE0, atES, frz_own, frz_d, frz_u, x_sFrz, slV_d, slV_own, slD_d, slO_own, x_sApp, exB_lst, x_sExt, x_sStx, x_gV, x_gD, x_gN, x_gT, x_gC, x_gE, x_mC, x_mL, x_m1, x_m2, x_mT, bB_bl, iB_int, x_mChain, x_mAnd, x_mOr, x_mNot, x_mAndV, x_mOrV, x_mNotV, x_mIte, x_aN, x_aC, x_mTup, x_mLst, x_mCall, x_add, x_addT, x_addL, x_sub, x_mul, x_div, x_mod, x_pow, x_shl, x_neg, x_lt, x_le, x_gt, x_ge, x_ltB, x_leB, x_gtB, x_geB, x_eq, x_ne, x_eqT, x_neT, x_eqL, x_neL, x_eqS, x_neS, x_eqB, x_neB, x_is, x_isN, x_isB, x_isNB, isNon_non, isNon_int, isNon_tup, isNon_lst, isNon_str, isNon_bl, x_inT, x_inL, x_ninT, x_ninL, x_ix0, x_ix1, x_ix2, x_ixl0, x_ixl1, x_ixl2, x_ixl3, oB_int, x_oN, x_oS, slB_lst, slB_tup, x_mSl, lB_lst, x_mSlF, x_mRev, rvB_lst, rvB_tup, x_mRevB, x_mCatF, x_mRepF, x_mulL, x_mulB, x_mulBT, x_lenL, x_lenT, x_abs, x_int, x_intB, x_max2, x_min2, x_tupL, x_tupT, x_lstL, x_lstT, x_sum, x_sumT, x_any, x_all, sqB_lst, sqB_tup, x_mSeqB, r1B_, x_mR1, r2B_, x_mR2, x_mEnumL, zpB_l, zpB_t, x_mZip, x_mZipB, zpX_ll, zpX_tt, zpX_tl, zpX_lt, x_rg1, x_rg2, x_mLRg, x_mTRg, x_mLc, wipe1, wipe2, wipe3, x_tTrue, x_fnM, x_pick, x_eqZl, x_neZl, x_eqZt, x_neZt, List.isEmpty_nil, List.isEmpty_cons, deq_ii, x_ite, sizeLine_is, true_and, and_true, forall_const, implies_true, not_true_eq_false, not_false_eq_true, false_implies, true_implies, Bool.true_eq_false, Bool.false_eq_true, decide_eq_true_eq, decide_true, decide_false, Bool.not_true, Bool.not_false, Bool.not_eq_true', decide_eq_false_iff_not, Decidable.not_not, x_flatF, x_mLc2, flat_bl, flat_int, flat_non, x_mR3, r3B_, cast_0, cast_1, cast_2, cast_3, Int.reduceEq, Int.reduceLT, Int.reduceLE, isi_int_non, isi_int_bl, isi_int_int, isi_int_str, isi_int_tup, isi_int_lst, isi_bool_non, isi_bool_bl, isi_bool_int, isi_bool_str, isi_bool_tup, isi_bool_lst, isi_tuple_non, isi_tuple_bl, isi_tuple_int, isi_tuple_str, isi_tuple_tup, isi_tuple_lst, isi_list_non, isi_list_bl, isi_list_int, isi_list_str, isi_list_tup, isi_list_lst, isi_str_non, isi_str_bl, isi_str_int, isi_str_str, isi_str_tup, isi_str_lst, isi_int_dct, isi_bool_dct, isi_tuple_dct, isi_list_dct, isi_str_dct, isi_dict_dct, isNon_dct, isi_q, sqB_q, len_q, isNon_q, q_ix0, q_ix1, q_eq, q_ne, List.length_cons, List.length_nil, Nat.reduceAdd, Nat.reduceLeDiff, Nat.reduceSub, Nat.zero_add, List.set_cons_zero, List.set_cons_succ, List.map_cons, List.map_nil, List.replicate_succ, List.replicate_zero, List.cons_append, List.nil_append, f_is_span_row, b_is_span_row]; exact q
theorem adj_up : ∀ {l : List (Int × Int)}, l.Pairwise (fun a b => a.1 ≤ b.1) → adj l = true
  | [], _ => rfl
  | [x], _ => rfl
  | x :: y :: l, h => by
    have h2 := List.pairwise_cons.mp h
    have ih := adj_up (l := y :: l) h2.2
    unfold adj at ih ⊢
    rw [List.tail_cons, List.zip_cons_cons, List.all_cons]
    rw [List.tail_cons] at ih
    rw [Bool.and_eq_true]
    exact ⟨decide_eq_true (h2.1 y List.mem_cons_self), ih⟩
theorem adj_back : ∀ {l : List (Int × Int)}, adj l = true → l.Pairwise fun a b => a.1 ≤ b.1
  | [], _ => List.Pairwise.nil
  | [x], _ => List.pairwise_singleton _ _
  | x :: y :: l, h => by
    unfold adj at h
    rw [List.tail_cons, List.zip_cons_cons, List.all_cons, Bool.and_eq_true] at h
    have ih := adj_back (l := y :: l) h.2
    refine List.pairwise_cons.mpr ⟨fun z hz => ?_, ih⟩
    have h1 := of_decide_eq_true h.1
    rcases List.mem_cons.mp hz with e | hz
    · rw [e]
      exact h1
    · have := (List.pairwise_cons.mp ih).1 z hz
      dsimp only at h1
      omega
end LW

namespace LW
open PySem DL
/-! ### a drawn lot -/
section
variable {α : Type} [DecidableEq α] {en : En} {mg : D → En → (En → Prop) → Prop} {mt : M Bool} {me : M D}
theorem lc_any (enc : α → D) (w : α → D) : ∀ (l : List α) (acc : List D) {Q : List D → Prop}, l.Nodup →
    (∀ a ∈ l, ∀ (Qy : D → Prop) (Qn : Prop), Qy (w a) → Qn → mg (enc a) en fun en2 => mt en2 fun b => if b = true then me en2 Qy else Qn) →
    (∀ c : α → Bool, Q (acc ++ (l.filter c).map w)) → lcL en mg mt me (l.map enc) acc Q
  | [], acc, Q, _, _, h => by
    have := h fun _ => true
    rw [List.filter_nil, List.map_nil, List.append_nil] at this
    exact this
  | a :: l, acc, Q, hn, hs, h => by
    obtain ⟨n1, n2⟩ := List.nodup_cons.mp hn
    have key : ∀ (b : Bool) (c : α → Bool), l.filter (fun x => if x = a then b else c x) = l.filter c := fun b c => List.filter_congr fun x hx => by
      rw [if_neg fun e => n1 (by rw [← e]; exact hx)]
    refine hs a List.mem_cons_self _ _ ?_ ?_
    · refine lc_any enc w l _ n2 (fun b hb => hs b (List.mem_cons_of_mem _ hb)) fun c => ?_
      have := h fun x => if x = a then true else c x
      rw [List.filter_cons_of_pos (by simp), key, List.map_cons] at this
      rw [List.append_assoc]
      exact this
    · refine lc_any enc w l _ n2 (fun b hb => hs b (List.mem_cons_of_mem _ hb)) fun c => ?_
      have := h fun x => if x = a then false else c x
      rw [List.filter_cons_of_neg (by simp), key] at this
      exact this
end
/-- how many keys -/
theorem dlen {l : List Nat} {m : Nat} (h1 : ∀ x ∈ l, x < m) (h2 : ∀ r, r < m → r ∈ l) : (mergeD [] (l.map fun r : Nat => ((Sum.inl (r : Int) : L2.Key), D.int 0))).length = m := by
  obtain ⟨n1, n2⟩ := merge_keys (l.map fun r : Nat => ((Sum.inl (r : Int) : L2.Key), D.int 0))
  have hp : ((mergeD [] (l.map fun r : Nat => ((Sum.inl (r : Int) : L2.Key), D.int 0))).map (·.1)).Perm ((List.range m).map fun r : Nat => (Sum.inl (r : Int) : L2.Key)) := by
    refine (List.perm_ext_iff_of_nodup n1 ?_).mpr fun k => ?_
    · rw [List.nodup_iff_pairwise_ne, List.pairwise_map]
      refine List.Pairwise.imp (R := fun a b => a < b) (fun {a b} h e => ?_) List.pairwise_lt_range
      have := Sum.inl.inj e
      omega
    · rw [n2, List.map_map, List.mem_map, List.mem_map]
      constructor
      · rintro ⟨r, hr, rfl⟩
        exact ⟨r, List.mem_range.mpr (h1 r hr), rfl⟩
      · rintro ⟨r, hr, rfl⟩
        exact ⟨r, h2 r (List.mem_range.mp hr), rfl⟩
  have := hp.length_eq
  rw [List.length_map, List.length_map, List.length_range] at this
  exact this
theorem kvs_of (l : List Nat) : kvs? (l.map fun r => D.tup [iD r, .int 0]) = some (l.map fun r : Nat => ((Sum.inl (r : Int) : L2.Key), D.int 0)) := by
  induction l with
  | nil => rfl
  | cons r l ih =>
    rw [List.map_cons, List.map_cons]
    unfold kvs?
    rw [ih]
    rfl
theorem x_dictN {l : List Nat} {Q : D → Prop} : mDictP [.lst (l.map fun r => D.tup [iD r, .int 0])] Q = Q (dctOf (mergeD [] (l.map fun r : Nat => ((Sum.inl (r : Int) : L2.Key), D.int 0)))) := by
  have e : mDictP [.lst (l.map fun r => D.tup [iD r, .int 0])] Q = (match kvs? (l.map fun r => D.tup [iD r, .int 0]) with | some kvs => Q (dctOf (mergeD [] kvs)) | none => False) := rfl
  rw [e, kvs_of]
theorem x_lenDc {kvs : List (L2.Key × D)} {Q : D → Prop} : mLenD [dctOf kvs] Q = Q (iD kvs.length) := by
  have e : mLenD [dctOf kvs] Q = Q (.int ((kvs.map fun p => keyD p.1).length : Int)) := rfl
  rw [e, List.length_map]
  rfl
theorem sh_bl {n : Nat} {b : Bool} : Sh n 10 (.bl b) := ⟨by cases n <;> rfl, rfl, by cases b <;> decide⟩
theorem sh_rms {l : List Nat} (hl : l.length ≤ 100) (h : ∀ x ∈ l, x < 2 ^ 20) : Sh 1 3000 (.tup (l.map iD)) := (Sh.tup (n := 0) (w := 22) (l := 100) (fun d hd => by
  obtain ⟨x, hx, rfl⟩ := List.mem_map.mp hd
  exact Sh.int 20 (by have := h x hx; unfold Bd; omega)) (by rw [List.length_map]; exact hl)).mono (by decide)
def Ok (en : En) : Prop := ∃ a2 a3 a4 a5 a6 a7 a8 a9 a10 a11 a12 a13 a14 a15 a16, en = [.u, .d .src, a2, a3, a4, a5, a6, a7, a8, a9, a10, a11, a12, a13, a14, a15, a16]
section
variable {F : DL.Fin} {sp : List (Int × Int)} {a2 a7 a8 a9 a10 a11 a12 a13 a14 a15 a16 : DL.Slot}
def rmsT (sp : List (Int × Int)) : D := .tup ((rms sp sp.length).map iD)
theorem rms_at {i j : Nat} (h : j < i) : ((rms sp i).map iD)[j]? = some (iD ((rms sp i).getD j 0)) := by
  rw [List.getElem?_map, List.getElem?_eq_getElem (by rw [rms_len]; exact h), List.getD_eq_getElem?_getD, List.getElem?_eq_getElem (by rw [rms_len]; exact h)]
  rfl
theorem z1 {i : Nat} (U : Up sp) (hl : sp.length ≤ 12) (hi : i < sp.length) {b : Int} (hF : ∀ a10 a14 a16, F.nx [.u, .d .src, a2, .d (.tup (sp.map fr)), .d (iD (lon sp)), .d (rmsT sp), .own ((rms sp (i + 1)).map iD), .d (.int (i : Int)), .d (.int (Be sp i)), .d (.int b), a10, a11, a12, a13, a14, a15, a16]) :
    b_law_1 F [.u, .d .src, a2, .d (.tup (sp.map fr)), .d (iD (lon sp)), .d (rmsT sp), .own ((rms sp i).map iD), .d (.int (i : Int)), .d (.int (Be sp i)), .d (.int b), a10, a11, a12, a13, a14, a15, a16] := by
  obtain ⟨es, R⟩ := rm_ex U i (by omega)
  obtain ⟨hm, ⟨t, ht⟩, _, _⟩ := R.step U hi
  have hr : rms sp (i + 1) = rms sp i ++ [takes es (Be sp i)] := by rw [rms, hm]
  simp only [x_sSq, x_sNx, x_sBk, x_sCt, x_sRet, x_sRetN, x_sIf, x_sAsg, x_sOwn, x_sPar, x_sPar3, x_sPx, x_sPx3, x_sPx4, x_xD, x_xF, x_sDrop, x_sFor, atE0, atES, frz_own, frz_d, frz_u, x_sFrz, slV_d, slV_own, slD_d, slO_own, x_sApp, exB_lst, x_sExt, x_sStx, x_gV, x_gD, x_gN, x_gT, x_gC, x_gE, x_mC, x_mL, x_m1, x_m2, x_mT, bB_bl, iB_int, x_mChain, x_mAnd, x_mOr, x_mNot, x_mAndV, x_mOrV, x_mNotV, x_mIte, x_aN, x_aC, x_mTup, x_mLst, x_mCall, x_add, x_addT, x_addL, x_sub, x_mul, x_div, x_mod, x_pow, x_shl, x_neg, x_lt, x_le, x_gt, x_ge, x_ltB, x_leB, x_gtB, x_geB, x_eq, x_ne, x_eqT, x_neT, x_eqL, x_neL, x_eqS, x_neS, x_eqB, x_neB, x_is, x_isN, x_isB, x_isNB, isNon_non, isNon_int, isNon_tup, isNon_lst, isNon_str, isNon_bl, x_inT, x_inL, x_ninT, x_ninL, x_ix0, x_ix1, x_ix2, x_ixl0, x_ixl1, x_ixl2, x_ixl3, oB_int, x_oN, x_oS, slB_lst, slB_tup, x_mSl, lB_lst, x_mSlF, x_mRev, rvB_lst, rvB_tup, x_mRevB, x_mCatF, x_mRepF, x_mulL, x_mulB, x_mulBT, x_lenL, x_lenT, x_abs, x_int, x_intB, x_max2, x_min2, x_tupL, x_tupT, x_lstL, x_lstT, x_sum, x_sumT, x_any, x_all, sqB_lst, sqB_tup, x_mSeqB, r1B_, x_mR1, r2B_, x_mR2, x_mEnumL, zpB_l, zpB_t, x_mZip, x_mZipB, zpX_ll, zpX_tt, zpX_tl, zpX_lt, x_rg1, x_rg2, x_mLRg, x_mTRg, x_mLc, wipe1, wipe2, wipe3, x_tTrue, x_fnM, x_pick, x_eqZl, x_neZl, x_eqZt, x_neZt, List.isEmpty_nil, List.isEmpty_cons, deq_ii, x_ite, sizeLine_is, true_and, and_true, forall_const, implies_true, not_true_eq_false, not_false_eq_true, false_implies, true_implies, Bool.true_eq_false, Bool.false_eq_true, decide_eq_true_eq, decide_true, decide_false, Bool.not_true, Bool.not_false, Bool.not_eq_true', decide_eq_false_iff_not, Decidable.not_not, x_flatF, x_mLc2, flat_bl, flat_int, flat_non, x_mR3, r3B_, cast_0, cast_1, cast_2, cast_3, Int.reduceEq, Int.reduceLT, Int.reduceLE, isi_int_non, isi_int_bl, isi_int_int, isi_int_str, isi_int_tup, isi_int_lst, isi_bool_non, isi_bool_bl, isi_bool_int, isi_bool_str, isi_bool_tup, isi_bool_lst, isi_tuple_non, isi_tuple_bl, isi_tuple_int, isi_tuple_str, isi_tuple_tup, isi_tuple_lst, isi_list_non, isi_list_bl, isi_list_int, isi_list_str, isi_list_tup, isi_list_lst, isi_str_non, isi_str_bl, isi_str_int, isi_str_str, isi_str_tup, isi_str_lst, isi_int_dct, isi_bool_dct, isi_tuple_dct, isi_list_dct, isi_str_dct, isi_dict_dct, isNon_dct, isi_q, sqB_q, len_q, isNon_q, q_ix0, q_ix1, q_eq, q_ne, List.length_cons, List.length_nil, Nat.reduceAdd, Nat.reduceLeDiff, Nat.reduceSub, Nat.zero_add, List.set_cons_zero, List.set_cons_succ, List.map_cons, List.map_nil, List.replicate_succ, List.replicate_zero, List.cons_append, List.nil_append, b_law_1]
  refine ⟨rOk_nat (by omega), ?_⟩
  rw [show ((i : Int)).toNat = i from rfl, rng_nat]
  refine ⟨by rw [List.length_map, List.length_range]; omega, lc_filE iD (fun j => decide (Be sp i < En' sp j)) (fun j => iD ((rms sp i).getD j 0)) (fun j hj Qy Qn hy hn => ?_) ?_⟩
  · have hj := List.mem_range.mp hj
    unfold iD
    (try simp only [x_sSq, x_sNx, x_sBk, x_sCt, x_sRet, x_sRetN, x_sIf, x_sAsg, x_sOwn, x_sPar, x_sPar3, x_sPx, x_sPx3, x_sPx4, x_xD, x_xF, x_sDrop, x_sFor, atE0, atES, frz_own, frz_d, frz_u, x_sFrz, slV_d, slV_own, slD_d, slO_own, x_sApp, exB_lst, x_sExt, x_sStx, x_gV, x_gD, x_gN, x_gT, x_gC, x_gE, x_mC, x_mL, x_m1, x_m2, x_mT, bB_bl, iB_int, x_mChain, x_mAnd, x_mOr, x_mNot, x_mAndV, x_mOrV, x_mNotV, x_mIte, x_aN, x_aC, x_mTup, x_mLst, x_mCall, x_add, x_addT, x_addL, x_sub, x_mul, x_div, x_mod, x_pow, x_shl, x_neg, x_lt, x_le, x_gt, x_ge, x_ltB, x_leB, x_gtB, x_geB, x_eq, x_ne, x_eqT, x_neT, x_eqL, x_neL, x_eqS, x_neS, x_eqB, x_neB, x_is, x_isN, x_isB, x_isNB, isNon_non, isNon_int, isNon_tup, isNon_lst, isNon_str, isNon_bl, x_inT, x_inL, x_ninT, x_ninL, x_ix0, x_ix1, x_ix2, x_ixl0, x_ixl1, x_ixl2, x_ixl3, oB_int, x_oN, x_oS, slB_lst, slB_tup, x_mSl, lB_lst, x_mSlF, x_mRev, rvB_lst, rvB_tup, x_mRevB, x_mCatF, x_mRepF, x_mulL, x_mulB, x_mulBT, x_lenL, x_lenT, x_abs, x_int, x_intB, x_max2, x_min2, x_tupL, x_tupT, x_lstL, x_lstT, x_sum, x_sumT, x_any, x_all, sqB_lst, sqB_tup, x_mSeqB, r1B_, x_mR1, r2B_, x_mR2, x_mEnumL, zpB_l, zpB_t, x_mZip, x_mZipB, zpX_ll, zpX_tt, zpX_tl, zpX_lt, x_rg1, x_rg2, x_mLRg, x_mTRg, x_mLc, wipe1, wipe2, wipe3, x_tTrue, x_fnM, x_pick, x_eqZl, x_neZl, x_eqZt, x_neZt, List.isEmpty_nil, List.isEmpty_cons, deq_ii, x_ite, sizeLine_is, true_and, and_true, forall_const, implies_true, not_true_eq_false, not_false_eq_true, false_implies, true_implies, Bool.true_eq_false, Bool.false_eq_true, decide_eq_true_eq, decide_true, decide_false, Bool.not_true, Bool.not_false, Bool.not_eq_true', decide_eq_false_iff_not, Decidable.not_not, x_flatF, x_mLc2, flat_bl, flat_int, flat_non, x_mR3, r3B_, cast_0, cast_1, cast_2, cast_3, Int.reduceEq, Int.reduceLT, Int.reduceLE, isi_int_non, isi_int_bl, isi_int_int, isi_int_str, isi_int_tup, isi_int_lst, isi_bool_non, isi_bool_bl, isi_bool_int, isi_bool_str, isi_bool_tup, isi_bool_lst, isi_tuple_non, isi_tuple_bl, isi_tuple_int, isi_tuple_str, isi_tuple_tup, isi_tuple_lst, isi_list_non, isi_list_bl, isi_list_int, isi_list_str, isi_list_tup, isi_list_lst, isi_str_non, isi_str_bl, isi_str_int, isi_str_str, isi_str_tup, isi_str_lst, isi_int_dct, isi_bool_dct, isi_tuple_dct, isi_list_dct, isi_str_dct, isi_dict_dct, isNon_dct, isi_q, sqB_q, len_q, isNon_q, q_ix0, q_ix1, q_eq, q_ne, List.length_cons, List.length_nil, Nat.reduceAdd, Nat.reduceLeDiff, Nat.reduceSub, Nat.zero_add, List.set_cons_zero, List.set_cons_succ, List.map_cons, List.map_nil, List.replicate_succ, List.replicate_zero, List.cons_append, List.nil_append])
    refine ixA j rfl (sp_get (by omega)) ?_
    simp only [x_sSq, x_sNx, x_sBk, x_sCt, x_sRet, x_sRetN, x_sIf, x_sAsg, x_sOwn, x_sPar, x_sPar3, x_sPx, x_sPx3, x_sPx4, x_xD, x_xF, x_sDrop, x_sFor, atE0, atES, frz_own, frz_d, frz_u, x_sFrz, slV_d, slV_own, slD_d, slO_own, x_sApp, exB_lst, x_sExt, x_sStx, x_gV, x_gD, x_gN, x_gT, x_gC, x_gE, x_mC, x_mL, x_m1, x_m2, x_mT, bB_bl, iB_int, x_mChain, x_mAnd, x_mOr, x_mNot, x_mAndV, x_mOrV, x_mNotV, x_mIte, x_aN, x_aC, x_mTup, x_mLst, x_mCall, x_add, x_addT, x_addL, x_sub, x_mul, x_div, x_mod, x_pow, x_shl, x_neg, x_lt, x_le, x_gt, x_ge, x_ltB, x_leB, x_gtB, x_geB, x_eq, x_ne, x_eqT, x_neT, x_eqL, x_neL, x_eqS, x_neS, x_eqB, x_neB, x_is, x_isN, x_isB, x_isNB, isNon_non, isNon_int, isNon_tup, isNon_lst, isNon_str, isNon_bl, x_inT, x_inL, x_ninT, x_ninL, x_ix0, x_ix1, x_ix2, x_ixl0, x_ixl1, x_ixl2, x_ixl3, oB_int, x_oN, x_oS, slB_lst, slB_tup, x_mSl, lB_lst, x_mSlF, x_mRev, rvB_lst, rvB_tup, x_mRevB, x_mCatF, x_mRepF, x_mulL, x_mulB, x_mulBT, x_lenL, x_lenT, x_abs, x_int, x_intB, x_max2, x_min2, x_tupL, x_tupT, x_lstL, x_lstT, x_sum, x_sumT, x_any, x_all, sqB_lst, sqB_tup, x_mSeqB, r1B_, x_mR1, r2B_, x_mR2, x_mEnumL, zpB_l, zpB_t, x_mZip, x_mZipB, zpX_ll, zpX_tt, zpX_tl, zpX_lt, x_rg1, x_rg2, x_mLRg, x_mTRg, x_mLc, wipe1, wipe2, wipe3, x_tTrue, x_fnM, x_pick, x_eqZl, x_neZl, x_eqZt, x_neZt, List.isEmpty_nil, List.isEmpty_cons, deq_ii, x_ite, sizeLine_is, true_and, and_true, forall_const, implies_true, not_true_eq_false, not_false_eq_true, false_implies, true_implies, Bool.true_eq_false, Bool.false_eq_true, decide_eq_true_eq, decide_true, decide_false, Bool.not_true, Bool.not_false, Bool.not_eq_true', decide_eq_false_iff_not, Decidable.not_not, x_flatF, x_mLc2, flat_bl, flat_int, flat_non, x_mR3, r3B_, cast_0, cast_1, cast_2, cast_3, Int.reduceEq, Int.reduceLT, Int.reduceLE, isi_int_non, isi_int_bl, isi_int_int, isi_int_str, isi_int_tup, isi_int_lst, isi_bool_non, isi_bool_bl, isi_bool_int, isi_bool_str, isi_bool_tup, isi_bool_lst, isi_tuple_non, isi_tuple_bl, isi_tuple_int, isi_tuple_str, isi_tuple_tup, isi_tuple_lst, isi_list_non, isi_list_bl, isi_list_int, isi_list_str, isi_list_tup, isi_list_lst, isi_str_non, isi_str_bl, isi_str_int, isi_str_str, isi_str_tup, isi_str_lst, isi_int_dct, isi_bool_dct, isi_tuple_dct, isi_list_dct, isi_str_dct, isi_dict_dct, isNon_dct, isi_q, sqB_q, len_q, isNon_q, q_ix0, q_ix1, q_eq, q_ne, List.length_cons, List.length_nil, Nat.reduceAdd, Nat.reduceLeDiff, Nat.reduceSub, Nat.zero_add, List.set_cons_zero, List.set_cons_succ, List.map_cons, List.map_nil, List.replicate_succ, List.replicate_zero, List.cons_append, List.nil_append, fr]
    refine ⟨fun h => ixB j rfl (rms_at hj) (hy (decide_eq_true h)), fun h => hn (decide_eq_false h)⟩
  · have e : ((List.range i).filter fun j => decide (Be sp i < En' sp j)).map (fun j => iD ((rms sp i).getD j 0)) = (tak sp (rms sp i) i).map iD := by
      unfold tak
      rw [List.map_map]
      rfl
    rw [e]
    simp only [x_sSq, x_sNx, x_sBk, x_sCt, x_sRet, x_sRetN, x_sIf, x_sAsg, x_sOwn, x_sPar, x_sPar3, x_sPx, x_sPx3, x_sPx4, x_xD, x_xF, x_sDrop, x_sFor, atE0, atES, frz_own, frz_d, frz_u, x_sFrz, slV_d, slV_own, slD_d, slO_own, x_sApp, exB_lst, x_sExt, x_sStx, x_gV, x_gD, x_gN, x_gT, x_gC, x_gE, x_mC, x_mL, x_m1, x_m2, x_mT, bB_bl, iB_int, x_mChain, x_mAnd, x_mOr, x_mNot, x_mAndV, x_mOrV, x_mNotV, x_mIte, x_aN, x_aC, x_mTup, x_mLst, x_mCall, x_add, x_addT, x_addL, x_sub, x_mul, x_div, x_mod, x_pow, x_shl, x_neg, x_lt, x_le, x_gt, x_ge, x_ltB, x_leB, x_gtB, x_geB, x_eq, x_ne, x_eqT, x_neT, x_eqL, x_neL, x_eqS, x_neS, x_eqB, x_neB, x_is, x_isN, x_isB, x_isNB, isNon_non, isNon_int, isNon_tup, isNon_lst, isNon_str, isNon_bl, x_inT, x_inL, x_ninT, x_ninL, x_ix0, x_ix1, x_ix2, x_ixl0, x_ixl1, x_ixl2, x_ixl3, oB_int, x_oN, x_oS, slB_lst, slB_tup, x_mSl, lB_lst, x_mSlF, x_mRev, rvB_lst, rvB_tup, x_mRevB, x_mCatF, x_mRepF, x_mulL, x_mulB, x_mulBT, x_lenL, x_lenT, x_abs, x_int, x_intB, x_max2, x_min2, x_tupL, x_tupT, x_lstL, x_lstT, x_sum, x_sumT, x_any, x_all, sqB_lst, sqB_tup, x_mSeqB, r1B_, x_mR1, r2B_, x_mR2, x_mEnumL, zpB_l, zpB_t, x_mZip, x_mZipB, zpX_ll, zpX_tt, zpX_tl, zpX_lt, x_rg1, x_rg2, x_mLRg, x_mTRg, x_mLc, wipe1, wipe2, wipe3, x_tTrue, x_fnM, x_pick, x_eqZl, x_neZl, x_eqZt, x_neZt, List.isEmpty_nil, List.isEmpty_cons, deq_ii, x_ite, sizeLine_is, true_and, and_true, forall_const, implies_true, not_true_eq_false, not_false_eq_true, false_implies, true_implies, Bool.true_eq_false, Bool.false_eq_true, decide_eq_true_eq, decide_true, decide_false, Bool.not_true, Bool.not_false, Bool.not_eq_true', decide_eq_false_iff_not, Decidable.not_not, x_flatF, x_mLc2, flat_bl, flat_int, flat_non, x_mR3, r3B_, cast_0, cast_1, cast_2, cast_3, Int.reduceEq, Int.reduceLT, Int.reduceLE, isi_int_non, isi_int_bl, isi_int_int, isi_int_str, isi_int_tup, isi_int_lst, isi_bool_non, isi_bool_bl, isi_bool_int, isi_bool_str, isi_bool_tup, isi_bool_lst, isi_tuple_non, isi_tuple_bl, isi_tuple_int, isi_tuple_str, isi_tuple_tup, isi_tuple_lst, isi_list_non, isi_list_bl, isi_list_int, isi_list_str, isi_list_tup, isi_list_lst, isi_str_non, isi_str_bl, isi_str_int, isi_str_str, isi_str_tup, isi_str_lst, isi_int_dct, isi_bool_dct, isi_tuple_dct, isi_list_dct, isi_str_dct, isi_dict_dct, isNon_dct, isi_q, sqB_q, len_q, isNon_q, q_ix0, q_ix1, q_eq, q_ne, List.length_cons, List.length_nil, Nat.reduceAdd, Nat.reduceLeDiff, Nat.reduceSub, Nat.zero_add, List.set_cons_zero, List.set_cons_succ, List.map_cons, List.map_nil, List.replicate_succ, List.replicate_zero, List.cons_append, List.nil_append, List.length_map]
    refine ⟨rOk_nat (by omega), ?_⟩
    rw [show ((sp.length : Int)).toNat = sp.length from rfl, rng_nat]
    refine ⟨by rw [List.length_map, List.length_range]; omega, lc_filE iD (fun r => !decide (r ∈ tak sp (rms sp i) i)) iD (fun r hr Qy Qn hy hn => ?_) ?_⟩
    · (try simp only [x_sSq, x_sNx, x_sBk, x_sCt, x_sRet, x_sRetN, x_sIf, x_sAsg, x_sOwn, x_sPar, x_sPar3, x_sPx, x_sPx3, x_sPx4, x_xD, x_xF, x_sDrop, x_sFor, atE0, atES, frz_own, frz_d, frz_u, x_sFrz, slV_d, slV_own, slD_d, slO_own, x_sApp, exB_lst, x_sExt, x_sStx, x_gV, x_gD, x_gN, x_gT, x_gC, x_gE, x_mC, x_mL, x_m1, x_m2, x_mT, bB_bl, iB_int, x_mChain, x_mAnd, x_mOr, x_mNot, x_mAndV, x_mOrV, x_mNotV, x_mIte, x_aN, x_aC, x_mTup, x_mLst, x_mCall, x_add, x_addT, x_addL, x_sub, x_mul, x_div, x_mod, x_pow, x_shl, x_neg, x_lt, x_le, x_gt, x_ge, x_ltB, x_leB, x_gtB, x_geB, x_eq, x_ne, x_eqT, x_neT, x_eqL, x_neL, x_eqS, x_neS, x_eqB, x_neB, x_is, x_isN, x_isB, x_isNB, isNon_non, isNon_int, isNon_tup, isNon_lst, isNon_str, isNon_bl, x_inT, x_inL, x_ninT, x_ninL, x_ix0, x_ix1, x_ix2, x_ixl0, x_ixl1, x_ixl2, x_ixl3, oB_int, x_oN, x_oS, slB_lst, slB_tup, x_mSl, lB_lst, x_mSlF, x_mRev, rvB_lst, rvB_tup, x_mRevB, x_mCatF, x_mRepF, x_mulL, x_mulB, x_mulBT, x_lenL, x_lenT, x_abs, x_int, x_intB, x_max2, x_min2, x_tupL, x_tupT, x_lstL, x_lstT, x_sum, x_sumT, x_any, x_all, sqB_lst, sqB_tup, x_mSeqB, r1B_, x_mR1, r2B_, x_mR2, x_mEnumL, zpB_l, zpB_t, x_mZip, x_mZipB, zpX_ll, zpX_tt, zpX_tl, zpX_lt, x_rg1, x_rg2, x_mLRg, x_mTRg, x_mLc, wipe1, wipe2, wipe3, x_tTrue, x_fnM, x_pick, x_eqZl, x_neZl, x_eqZt, x_neZt, List.isEmpty_nil, List.isEmpty_cons, deq_ii, x_ite, sizeLine_is, true_and, and_true, forall_const, implies_true, not_true_eq_false, not_false_eq_true, false_implies, true_implies, Bool.true_eq_false, Bool.false_eq_true, decide_eq_true_eq, decide_true, decide_false, Bool.not_true, Bool.not_false, Bool.not_eq_true', decide_eq_false_iff_not, Decidable.not_not, x_flatF, x_mLc2, flat_bl, flat_int, flat_non, x_mR3, r3B_, cast_0, cast_1, cast_2, cast_3, Int.reduceEq, Int.reduceLT, Int.reduceLE, isi_int_non, isi_int_bl, isi_int_int, isi_int_str, isi_int_tup, isi_int_lst, isi_bool_non, isi_bool_bl, isi_bool_int, isi_bool_str, isi_bool_tup, isi_bool_lst, isi_tuple_non, isi_tuple_bl, isi_tuple_int, isi_tuple_str, isi_tuple_tup, isi_tuple_lst, isi_list_non, isi_list_bl, isi_list_int, isi_list_str, isi_list_tup, isi_list_lst, isi_str_non, isi_str_bl, isi_str_int, isi_str_str, isi_str_tup, isi_str_lst, isi_int_dct, isi_bool_dct, isi_tuple_dct, isi_list_dct, isi_str_dct, isi_dict_dct, isNon_dct, isi_q, sqB_q, len_q, isNon_q, q_ix0, q_ix1, q_eq, q_ne, List.length_cons, List.length_nil, Nat.reduceAdd, Nat.reduceLeDiff, Nat.reduceSub, Nat.zero_add, List.set_cons_zero, List.set_cons_succ, List.map_cons, List.map_nil, List.replicate_succ, List.replicate_zero, List.cons_append, List.nil_append])
      refine ⟨rfl, okd_nl, ?_⟩
      rw [any_deq]
      exact ⟨fun h => hy (by simpa using h), fun h => hn (by simpa using h)⟩
    · rw [ht]
      simp only [x_sSq, x_sNx, x_sBk, x_sCt, x_sRet, x_sRetN, x_sIf, x_sAsg, x_sOwn, x_sPar, x_sPar3, x_sPx, x_sPx3, x_sPx4, x_xD, x_xF, x_sDrop, x_sFor, atE0, atES, frz_own, frz_d, frz_u, x_sFrz, slV_d, slV_own, slD_d, slO_own, x_sApp, exB_lst, x_sExt, x_sStx, x_gV, x_gD, x_gN, x_gT, x_gC, x_gE, x_mC, x_mL, x_m1, x_m2, x_mT, bB_bl, iB_int, x_mChain, x_mAnd, x_mOr, x_mNot, x_mAndV, x_mOrV, x_mNotV, x_mIte, x_aN, x_aC, x_mTup, x_mLst, x_mCall, x_add, x_addT, x_addL, x_sub, x_mul, x_div, x_mod, x_pow, x_shl, x_neg, x_lt, x_le, x_gt, x_ge, x_ltB, x_leB, x_gtB, x_geB, x_eq, x_ne, x_eqT, x_neT, x_eqL, x_neL, x_eqS, x_neS, x_eqB, x_neB, x_is, x_isN, x_isB, x_isNB, isNon_non, isNon_int, isNon_tup, isNon_lst, isNon_str, isNon_bl, x_inT, x_inL, x_ninT, x_ninL, x_ix0, x_ix1, x_ix2, x_ixl0, x_ixl1, x_ixl2, x_ixl3, oB_int, x_oN, x_oS, slB_lst, slB_tup, x_mSl, lB_lst, x_mSlF, x_mRev, rvB_lst, rvB_tup, x_mRevB, x_mCatF, x_mRepF, x_mulL, x_mulB, x_mulBT, x_lenL, x_lenT, x_abs, x_int, x_intB, x_max2, x_min2, x_tupL, x_tupT, x_lstL, x_lstT, x_sum, x_sumT, x_any, x_all, sqB_lst, sqB_tup, x_mSeqB, r1B_, x_mR1, r2B_, x_mR2, x_mEnumL, zpB_l, zpB_t, x_mZip, x_mZipB, zpX_ll, zpX_tt, zpX_tl, zpX_lt, x_rg1, x_rg2, x_mLRg, x_mTRg, x_mLc, wipe1, wipe2, wipe3, x_tTrue, x_fnM, x_pick, x_eqZl, x_neZl, x_eqZt, x_neZt, List.isEmpty_nil, List.isEmpty_cons, deq_ii, x_ite, sizeLine_is, true_and, and_true, forall_const, implies_true, not_true_eq_false, not_false_eq_true, false_implies, true_implies, Bool.true_eq_false, Bool.false_eq_true, decide_eq_true_eq, decide_true, decide_false, Bool.not_true, Bool.not_false, Bool.not_eq_true', decide_eq_false_iff_not, Decidable.not_not, x_flatF, x_mLc2, flat_bl, flat_int, flat_non, x_mR3, r3B_, cast_0, cast_1, cast_2, cast_3, Int.reduceEq, Int.reduceLT, Int.reduceLE, isi_int_non, isi_int_bl, isi_int_int, isi_int_str, isi_int_tup, isi_int_lst, isi_bool_non, isi_bool_bl, isi_bool_int, isi_bool_str, isi_bool_tup, isi_bool_lst, isi_tuple_non, isi_tuple_bl, isi_tuple_int, isi_tuple_str, isi_tuple_tup, isi_tuple_lst, isi_list_non, isi_list_bl, isi_list_int, isi_list_str, isi_list_tup, isi_list_lst, isi_str_non, isi_str_bl, isi_str_int, isi_str_str, isi_str_tup, isi_str_lst, isi_int_dct, isi_bool_dct, isi_tuple_dct, isi_list_dct, isi_str_dct, isi_dict_dct, isNon_dct, isi_q, sqB_q, len_q, isNon_q, q_ix0, q_ix1, q_eq, q_ne, List.length_cons, List.length_nil, Nat.reduceAdd, Nat.reduceLeDiff, Nat.reduceSub, Nat.zero_add, List.set_cons_zero, List.set_cons_succ, List.map_cons, List.map_nil, List.replicate_succ, List.replicate_zero, List.cons_append, List.nil_append, List.length_map, rms_len]
      refine ⟨by omega, ?_⟩
      rw [hr, List.map_append] at hF
      exact hF _ _ _
theorem z3 {c : Nat → Bool} {k : Nat} (U : Up sp) (hl : sp.length ≤ 12) {a4 a5 a6 : DL.Slot} (hF : ∀ a7, F.nx [.u, .d .src, a2, .d (.tup (sp.map fr)), a4, a5, a6, a7, a8, a9, a10, .d (.tup (((List.range sp.length).filter c).map iD)), .d (.int (k : Int)), a13, a14, a15, a16]) :
    b_law_3 F [.u, .d .src, a2, .d (.tup (sp.map fr)), a4, a5, a6, a7, a8, a9, a10, .d (.tup (((List.range sp.length).filter c).map iD)), .d (.int (k : Int)), a13, a14, a15, a16] := by
  have hlen : ((List.range sp.length).filter c).length ≤ 12 := by
    rw [cnt_len]
    exact Nat.le_trans (cnt_le _ _) hl
  have hmem : ∀ i ∈ (List.range sp.length).filter c, i < sp.length := fun i hi => List.mem_range.mp (List.mem_filter.mp hi).1
  simp only [x_sSq, x_sNx, x_sBk, x_sCt, x_sRet, x_sRetN, x_sIf, x_sAsg, x_sOwn, x_sPar, x_sPar3, x_sPx, x_sPx3, x_sPx4, x_xD, x_xF, x_sDrop, x_sFor, atE0, atES, frz_own, frz_d, frz_u, x_sFrz, slV_d, slV_own, slD_d, slO_own, x_sApp, exB_lst, x_sExt, x_sStx, x_gV, x_gD, x_gN, x_gT, x_gC, x_gE, x_mC, x_mL, x_m1, x_m2, x_mT, bB_bl, iB_int, x_mChain, x_mAnd, x_mOr, x_mNot, x_mAndV, x_mOrV, x_mNotV, x_mIte, x_aN, x_aC, x_mTup, x_mLst, x_mCall, x_add, x_addT, x_addL, x_sub, x_mul, x_div, x_mod, x_pow, x_shl, x_neg, x_lt, x_le, x_gt, x_ge, x_ltB, x_leB, x_gtB, x_geB, x_eq, x_ne, x_eqT, x_neT, x_eqL, x_neL, x_eqS, x_neS, x_eqB, x_neB, x_is, x_isN, x_isB, x_isNB, isNon_non, isNon_int, isNon_tup, isNon_lst, isNon_str, isNon_bl, x_inT, x_inL, x_ninT, x_ninL, x_ix0, x_ix1, x_ix2, x_ixl0, x_ixl1, x_ixl2, x_ixl3, oB_int, x_oN, x_oS, slB_lst, slB_tup, x_mSl, lB_lst, x_mSlF, x_mRev, rvB_lst, rvB_tup, x_mRevB, x_mCatF, x_mRepF, x_mulL, x_mulB, x_mulBT, x_lenL, x_lenT, x_abs, x_int, x_intB, x_max2, x_min2, x_tupL, x_tupT, x_lstL, x_lstT, x_sum, x_sumT, x_any, x_all, sqB_lst, sqB_tup, x_mSeqB, r1B_, x_mR1, r2B_, x_mR2, x_mEnumL, zpB_l, zpB_t, x_mZip, x_mZipB, zpX_ll, zpX_tt, zpX_tl, zpX_lt, x_rg1, x_rg2, x_mLRg, x_mTRg, x_mLc, wipe1, wipe2, wipe3, x_tTrue, x_fnM, x_pick, x_eqZl, x_neZl, x_eqZt, x_neZt, List.isEmpty_nil, List.isEmpty_cons, deq_ii, x_ite, sizeLine_is, true_and, and_true, forall_const, implies_true, not_true_eq_false, not_false_eq_true, false_implies, true_implies, Bool.true_eq_false, Bool.false_eq_true, decide_eq_true_eq, decide_true, decide_false, Bool.not_true, Bool.not_false, Bool.not_eq_true', decide_eq_false_iff_not, Decidable.not_not, x_flatF, x_mLc2, flat_bl, flat_int, flat_non, x_mR3, r3B_, cast_0, cast_1, cast_2, cast_3, Int.reduceEq, Int.reduceLT, Int.reduceLE, isi_int_non, isi_int_bl, isi_int_int, isi_int_str, isi_int_tup, isi_int_lst, isi_bool_non, isi_bool_bl, isi_bool_int, isi_bool_str, isi_bool_tup, isi_bool_lst, isi_tuple_non, isi_tuple_bl, isi_tuple_int, isi_tuple_str, isi_tuple_tup, isi_tuple_lst, isi_list_non, isi_list_bl, isi_list_int, isi_list_str, isi_list_tup, isi_list_lst, isi_str_non, isi_str_bl, isi_str_int, isi_str_str, isi_str_tup, isi_str_lst, isi_int_dct, isi_bool_dct, isi_tuple_dct, isi_list_dct, isi_str_dct, isi_dict_dct, isNon_dct, isi_q, sqB_q, len_q, isNon_q, q_ix0, q_ix1, q_eq, q_ne, List.length_cons, List.length_nil, Nat.reduceAdd, Nat.reduceLeDiff, Nat.reduceSub, Nat.zero_add, List.set_cons_zero, List.set_cons_succ, List.map_cons, List.map_nil, List.replicate_succ, List.replicate_zero, List.cons_append, List.nil_append, b_law_3]
  refine sp_fit (by omega) hmem ?_
  simp only [x_sSq, x_sNx, x_sBk, x_sCt, x_sRet, x_sRetN, x_sIf, x_sAsg, x_sOwn, x_sPar, x_sPar3, x_sPx, x_sPx3, x_sPx4, x_xD, x_xF, x_sDrop, x_sFor, atE0, atES, frz_own, frz_d, frz_u, x_sFrz, slV_d, slV_own, slD_d, slO_own, x_sApp, exB_lst, x_sExt, x_sStx, x_gV, x_gD, x_gN, x_gT, x_gC, x_gE, x_mC, x_mL, x_m1, x_m2, x_mT, bB_bl, iB_int, x_mChain, x_mAnd, x_mOr, x_mNot, x_mAndV, x_mOrV, x_mNotV, x_mIte, x_aN, x_aC, x_mTup, x_mLst, x_mCall, x_add, x_addT, x_addL, x_sub, x_mul, x_div, x_mod, x_pow, x_shl, x_neg, x_lt, x_le, x_gt, x_ge, x_ltB, x_leB, x_gtB, x_geB, x_eq, x_ne, x_eqT, x_neT, x_eqL, x_neL, x_eqS, x_neS, x_eqB, x_neB, x_is, x_isN, x_isB, x_isNB, isNon_non, isNon_int, isNon_tup, isNon_lst, isNon_str, isNon_bl, x_inT, x_inL, x_ninT, x_ninL, x_ix0, x_ix1, x_ix2, x_ixl0, x_ixl1, x_ixl2, x_ixl3, oB_int, x_oN, x_oS, slB_lst, slB_tup, x_mSl, lB_lst, x_mSlF, x_mRev, rvB_lst, rvB_tup, x_mRevB, x_mCatF, x_mRepF, x_mulL, x_mulB, x_mulBT, x_lenL, x_lenT, x_abs, x_int, x_intB, x_max2, x_min2, x_tupL, x_tupT, x_lstL, x_lstT, x_sum, x_sumT, x_any, x_all, sqB_lst, sqB_tup, x_mSeqB, r1B_, x_mR1, r2B_, x_mR2, x_mEnumL, zpB_l, zpB_t, x_mZip, x_mZipB, zpX_ll, zpX_tt, zpX_tl, zpX_lt, x_rg1, x_rg2, x_mLRg, x_mTRg, x_mLc, wipe1, wipe2, wipe3, x_tTrue, x_fnM, x_pick, x_eqZl, x_neZl, x_eqZt, x_neZt, List.isEmpty_nil, List.isEmpty_cons, deq_ii, x_ite, sizeLine_is, true_and, and_true, forall_const, implies_true, not_true_eq_false, not_false_eq_true, false_implies, true_implies, Bool.true_eq_false, Bool.false_eq_true, decide_eq_true_eq, decide_true, decide_false, Bool.not_true, Bool.not_false, Bool.not_eq_true', decide_eq_false_iff_not, Decidable.not_not, x_flatF, x_mLc2, flat_bl, flat_int, flat_non, x_mR3, r3B_, cast_0, cast_1, cast_2, cast_3, Int.reduceEq, Int.reduceLT, Int.reduceLE, isi_int_non, isi_int_bl, isi_int_int, isi_int_str, isi_int_tup, isi_int_lst, isi_bool_non, isi_bool_bl, isi_bool_int, isi_bool_str, isi_bool_tup, isi_bool_lst, isi_tuple_non, isi_tuple_bl, isi_tuple_int, isi_tuple_str, isi_tuple_tup, isi_tuple_lst, isi_list_non, isi_list_bl, isi_list_int, isi_list_str, isi_list_tup, isi_list_lst, isi_str_non, isi_str_bl, isi_str_int, isi_str_str, isi_str_tup, isi_str_lst, isi_int_dct, isi_bool_dct, isi_tuple_dct, isi_list_dct, isi_str_dct, isi_dict_dct, isNon_dct, isi_q, sqB_q, len_q, isNon_q, q_ix0, q_ix1, q_eq, q_ne, List.length_cons, List.length_nil, Nat.reduceAdd, Nat.reduceLeDiff, Nat.reduceSub, Nat.zero_add, List.set_cons_zero, List.set_cons_succ, List.map_cons, List.map_nil, List.replicate_succ, List.replicate_zero, List.cons_append, List.nil_append, repr_eq (sh_bl (n := 1)), List.length_map]
  refine ⟨by omega, lc_mapE iD (fun i => fr (sp.getD i (0, 0))) (fun i hi Qy Qn hy => ?_) ?_⟩
  · unfold iD
    (try simp only [x_sSq, x_sNx, x_sBk, x_sCt, x_sRet, x_sRetN, x_sIf, x_sAsg, x_sOwn, x_sPar, x_sPar3, x_sPx, x_sPx3, x_sPx4, x_xD, x_xF, x_sDrop, x_sFor, atE0, atES, frz_own, frz_d, frz_u, x_sFrz, slV_d, slV_own, slD_d, slO_own, x_sApp, exB_lst, x_sExt, x_sStx, x_gV, x_gD, x_gN, x_gT, x_gC, x_gE, x_mC, x_mL, x_m1, x_m2, x_mT, bB_bl, iB_int, x_mChain, x_mAnd, x_mOr, x_mNot, x_mAndV, x_mOrV, x_mNotV, x_mIte, x_aN, x_aC, x_mTup, x_mLst, x_mCall, x_add, x_addT, x_addL, x_sub, x_mul, x_div, x_mod, x_pow, x_shl, x_neg, x_lt, x_le, x_gt, x_ge, x_ltB, x_leB, x_gtB, x_geB, x_eq, x_ne, x_eqT, x_neT, x_eqL, x_neL, x_eqS, x_neS, x_eqB, x_neB, x_is, x_isN, x_isB, x_isNB, isNon_non, isNon_int, isNon_tup, isNon_lst, isNon_str, isNon_bl, x_inT, x_inL, x_ninT, x_ninL, x_ix0, x_ix1, x_ix2, x_ixl0, x_ixl1, x_ixl2, x_ixl3, oB_int, x_oN, x_oS, slB_lst, slB_tup, x_mSl, lB_lst, x_mSlF, x_mRev, rvB_lst, rvB_tup, x_mRevB, x_mCatF, x_mRepF, x_mulL, x_mulB, x_mulBT, x_lenL, x_lenT, x_abs, x_int, x_intB, x_max2, x_min2, x_tupL, x_tupT, x_lstL, x_lstT, x_sum, x_sumT, x_any, x_all, sqB_lst, sqB_tup, x_mSeqB, r1B_, x_mR1, r2B_, x_mR2, x_mEnumL, zpB_l, zpB_t, x_mZip, x_mZipB, zpX_ll, zpX_tt, zpX_tl, zpX_lt, x_rg1, x_rg2, x_mLRg, x_mTRg, x_mLc, wipe1, wipe2, wipe3, x_tTrue, x_fnM, x_pick, x_eqZl, x_neZl, x_eqZt, x_neZt, List.isEmpty_nil, List.isEmpty_cons, deq_ii, x_ite, sizeLine_is, true_and, and_true, forall_const, implies_true, not_true_eq_false, not_false_eq_true, false_implies, true_implies, Bool.true_eq_false, Bool.false_eq_true, decide_eq_true_eq, decide_true, decide_false, Bool.not_true, Bool.not_false, Bool.not_eq_true', decide_eq_false_iff_not, Decidable.not_not, x_flatF, x_mLc2, flat_bl, flat_int, flat_non, x_mR3, r3B_, cast_0, cast_1, cast_2, cast_3, Int.reduceEq, Int.reduceLT, Int.reduceLE, isi_int_non, isi_int_bl, isi_int_int, isi_int_str, isi_int_tup, isi_int_lst, isi_bool_non, isi_bool_bl, isi_bool_int, isi_bool_str, isi_bool_tup, isi_bool_lst, isi_tuple_non, isi_tuple_bl, isi_tuple_int, isi_tuple_str, isi_tuple_tup, isi_tuple_lst, isi_list_non, isi_list_bl, isi_list_int, isi_list_str, isi_list_tup, isi_list_lst, isi_str_non, isi_str_bl, isi_str_int, isi_str_str, isi_str_tup, isi_str_lst, isi_int_dct, isi_bool_dct, isi_tuple_dct, isi_list_dct, isi_str_dct, isi_dict_dct, isNon_dct, isi_q, sqB_q, len_q, isNon_q, q_ix0, q_ix1, q_eq, q_ne, List.length_cons, List.length_nil, Nat.reduceAdd, Nat.reduceLeDiff, Nat.reduceSub, Nat.zero_add, List.set_cons_zero, List.set_cons_succ, List.map_cons, List.map_nil, List.replicate_succ, List.replicate_zero, List.cons_append, List.nil_append])
    exact ixA i rfl (sp_get (hmem i hi)) hy
  · rw [lot_map]
    refine sp_lonce (by rw [List.length_map]; omega) ?_
    unfold iD
    simp only [x_sSq, x_sNx, x_sBk, x_sCt, x_sRet, x_sRetN, x_sIf, x_sAsg, x_sOwn, x_sPar, x_sPar3, x_sPx, x_sPx3, x_sPx4, x_xD, x_xF, x_sDrop, x_sFor, atE0, atES, frz_own, frz_d, frz_u, x_sFrz, slV_d, slV_own, slD_d, slO_own, x_sApp, exB_lst, x_sExt, x_sStx, x_gV, x_gD, x_gN, x_gT, x_gC, x_gE, x_mC, x_mL, x_m1, x_m2, x_mT, bB_bl, iB_int, x_mChain, x_mAnd, x_mOr, x_mNot, x_mAndV, x_mOrV, x_mNotV, x_mIte, x_aN, x_aC, x_mTup, x_mLst, x_mCall, x_add, x_addT, x_addL, x_sub, x_mul, x_div, x_mod, x_pow, x_shl, x_neg, x_lt, x_le, x_gt, x_ge, x_ltB, x_leB, x_gtB, x_geB, x_eq, x_ne, x_eqT, x_neT, x_eqL, x_neL, x_eqS, x_neS, x_eqB, x_neB, x_is, x_isN, x_isB, x_isNB, isNon_non, isNon_int, isNon_tup, isNon_lst, isNon_str, isNon_bl, x_inT, x_inL, x_ninT, x_ninL, x_ix0, x_ix1, x_ix2, x_ixl0, x_ixl1, x_ixl2, x_ixl3, oB_int, x_oN, x_oS, slB_lst, slB_tup, x_mSl, lB_lst, x_mSlF, x_mRev, rvB_lst, rvB_tup, x_mRevB, x_mCatF, x_mRepF, x_mulL, x_mulB, x_mulBT, x_lenL, x_lenT, x_abs, x_int, x_intB, x_max2, x_min2, x_tupL, x_tupT, x_lstL, x_lstT, x_sum, x_sumT, x_any, x_all, sqB_lst, sqB_tup, x_mSeqB, r1B_, x_mR1, r2B_, x_mR2, x_mEnumL, zpB_l, zpB_t, x_mZip, x_mZipB, zpX_ll, zpX_tt, zpX_tl, zpX_lt, x_rg1, x_rg2, x_mLRg, x_mTRg, x_mLc, wipe1, wipe2, wipe3, x_tTrue, x_fnM, x_pick, x_eqZl, x_neZl, x_eqZt, x_neZt, List.isEmpty_nil, List.isEmpty_cons, deq_ii, x_ite, sizeLine_is, true_and, and_true, forall_const, implies_true, not_true_eq_false, not_false_eq_true, false_implies, true_implies, Bool.true_eq_false, Bool.false_eq_true, decide_eq_true_eq, decide_true, decide_false, Bool.not_true, Bool.not_false, Bool.not_eq_true', decide_eq_false_iff_not, Decidable.not_not, x_flatF, x_mLc2, flat_bl, flat_int, flat_non, x_mR3, r3B_, cast_0, cast_1, cast_2, cast_3, Int.reduceEq, Int.reduceLT, Int.reduceLE, isi_int_non, isi_int_bl, isi_int_int, isi_int_str, isi_int_tup, isi_int_lst, isi_bool_non, isi_bool_bl, isi_bool_int, isi_bool_str, isi_bool_tup, isi_bool_lst, isi_tuple_non, isi_tuple_bl, isi_tuple_int, isi_tuple_str, isi_tuple_tup, isi_tuple_lst, isi_list_non, isi_list_bl, isi_list_int, isi_list_str, isi_list_tup, isi_list_lst, isi_str_non, isi_str_bl, isi_str_int, isi_str_str, isi_str_tup, isi_str_lst, isi_int_dct, isi_bool_dct, isi_tuple_dct, isi_list_dct, isi_str_dct, isi_dict_dct, isNon_dct, isi_q, sqB_q, len_q, isNon_q, q_ix0, q_ix1, q_eq, q_ne, List.length_cons, List.length_nil, Nat.reduceAdd, Nat.reduceLeDiff, Nat.reduceSub, Nat.zero_add, List.set_cons_zero, List.set_cons_succ, List.map_cons, List.map_nil, List.replicate_succ, List.replicate_zero, List.cons_append, List.nil_append, repr_eq (sh_bl (n := 1))]
    have e : decide ((lon (((List.range sp.length).filter c).map fun i => sp.getD i (0, 0)) : Int) ≤ (k : Int)) = decide ((onc (((List.range sp.length).filter c).map fun i => sp.getD i (0, 0))).2 ≤ k) := by
      rw [onc_lon U c]
      exact decide_eq_decide.mpr (by omega)
    rw [e]
    simp only [x_sSq, x_sNx, x_sBk, x_sCt, x_sRet, x_sRetN, x_sIf, x_sAsg, x_sOwn, x_sPar, x_sPar3, x_sPx, x_sPx3, x_sPx4, x_xD, x_xF, x_sDrop, x_sFor, atE0, atES, frz_own, frz_d, frz_u, x_sFrz, slV_d, slV_own, slD_d, slO_own, x_sApp, exB_lst, x_sExt, x_sStx, x_gV, x_gD, x_gN, x_gT, x_gC, x_gE, x_mC, x_mL, x_m1, x_m2, x_mT, bB_bl, iB_int, x_mChain, x_mAnd, x_mOr, x_mNot, x_mAndV, x_mOrV, x_mNotV, x_mIte, x_aN, x_aC, x_mTup, x_mLst, x_mCall, x_add, x_addT, x_addL, x_sub, x_mul, x_div, x_mod, x_pow, x_shl, x_neg, x_lt, x_le, x_gt, x_ge, x_ltB, x_leB, x_gtB, x_geB, x_eq, x_ne, x_eqT, x_neT, x_eqL, x_neL, x_eqS, x_neS, x_eqB, x_neB, x_is, x_isN, x_isB, x_isNB, isNon_non, isNon_int, isNon_tup, isNon_lst, isNon_str, isNon_bl, x_inT, x_inL, x_ninT, x_ninL, x_ix0, x_ix1, x_ix2, x_ixl0, x_ixl1, x_ixl2, x_ixl3, oB_int, x_oN, x_oS, slB_lst, slB_tup, x_mSl, lB_lst, x_mSlF, x_mRev, rvB_lst, rvB_tup, x_mRevB, x_mCatF, x_mRepF, x_mulL, x_mulB, x_mulBT, x_lenL, x_lenT, x_abs, x_int, x_intB, x_max2, x_min2, x_tupL, x_tupT, x_lstL, x_lstT, x_sum, x_sumT, x_any, x_all, sqB_lst, sqB_tup, x_mSeqB, r1B_, x_mR1, r2B_, x_mR2, x_mEnumL, zpB_l, zpB_t, x_mZip, x_mZipB, zpX_ll, zpX_tt, zpX_tl, zpX_lt, x_rg1, x_rg2, x_mLRg, x_mTRg, x_mLc, wipe1, wipe2, wipe3, x_tTrue, x_fnM, x_pick, x_eqZl, x_neZl, x_eqZt, x_neZt, List.isEmpty_nil, List.isEmpty_cons, deq_ii, x_ite, sizeLine_is, true_and, and_true, forall_const, implies_true, not_true_eq_false, not_false_eq_true, false_implies, true_implies, Bool.true_eq_false, Bool.false_eq_true, decide_eq_true_eq, decide_true, decide_false, Bool.not_true, Bool.not_false, Bool.not_eq_true', decide_eq_false_iff_not, Decidable.not_not, x_flatF, x_mLc2, flat_bl, flat_int, flat_non, x_mR3, r3B_, cast_0, cast_1, cast_2, cast_3, Int.reduceEq, Int.reduceLT, Int.reduceLE, isi_int_non, isi_int_bl, isi_int_int, isi_int_str, isi_int_tup, isi_int_lst, isi_bool_non, isi_bool_bl, isi_bool_int, isi_bool_str, isi_bool_tup, isi_bool_lst, isi_tuple_non, isi_tuple_bl, isi_tuple_int, isi_tuple_str, isi_tuple_tup, isi_tuple_lst, isi_list_non, isi_list_bl, isi_list_int, isi_list_str, isi_list_tup, isi_list_lst, isi_str_non, isi_str_bl, isi_str_int, isi_str_str, isi_str_tup, isi_str_lst, isi_int_dct, isi_bool_dct, isi_tuple_dct, isi_list_dct, isi_str_dct, isi_dict_dct, isNon_dct, isi_q, sqB_q, len_q, isNon_q, q_ix0, q_ix1, q_eq, q_ne, List.length_cons, List.length_nil, Nat.reduceAdd, Nat.reduceLeDiff, Nat.reduceSub, Nat.zero_add, List.set_cons_zero, List.set_cons_succ, List.map_cons, List.map_nil, List.replicate_succ, List.replicate_zero, List.cons_append, List.nil_append, beq_self_eq_true]
    exact hF _
theorem z4 {c : Nat → Bool} (S : Spans sp) (hl : sp.length ≤ 12) {a4 a5 a6 : DL.Slot} (hF : ∀ en, Ok en → F.nx en) :
    b_law_4 F [.u, .d .src, a2, .d (.tup (sp.map fr)), a4, a5, a6, a7, a8, a9, a10, .d (.tup (((List.range sp.length).filter c).map iD)), a12, a13, a14, a15, a16] := by
  simp only [x_sSq, x_sNx, x_sBk, x_sCt, x_sRet, x_sRetN, x_sIf, x_sAsg, x_sOwn, x_sPar, x_sPar3, x_sPx, x_sPx3, x_sPx4, x_xD, x_xF, x_sDrop, x_sFor, atE0, atES, frz_own, frz_d, frz_u, x_sFrz, slV_d, slV_own, slD_d, slO_own, x_sApp, exB_lst, x_sExt, x_sStx, x_gV, x_gD, x_gN, x_gT, x_gC, x_gE, x_mC, x_mL, x_m1, x_m2, x_mT, bB_bl, iB_int, x_mChain, x_mAnd, x_mOr, x_mNot, x_mAndV, x_mOrV, x_mNotV, x_mIte, x_aN, x_aC, x_mTup, x_mLst, x_mCall, x_add, x_addT, x_addL, x_sub, x_mul, x_div, x_mod, x_pow, x_shl, x_neg, x_lt, x_le, x_gt, x_ge, x_ltB, x_leB, x_gtB, x_geB, x_eq, x_ne, x_eqT, x_neT, x_eqL, x_neL, x_eqS, x_neS, x_eqB, x_neB, x_is, x_isN, x_isB, x_isNB, isNon_non, isNon_int, isNon_tup, isNon_lst, isNon_str, isNon_bl, x_inT, x_inL, x_ninT, x_ninL, x_ix0, x_ix1, x_ix2, x_ixl0, x_ixl1, x_ixl2, x_ixl3, oB_int, x_oN, x_oS, slB_lst, slB_tup, x_mSl, lB_lst, x_mSlF, x_mRev, rvB_lst, rvB_tup, x_mRevB, x_mCatF, x_mRepF, x_mulL, x_mulB, x_mulBT, x_lenL, x_lenT, x_abs, x_int, x_intB, x_max2, x_min2, x_tupL, x_tupT, x_lstL, x_lstT, x_sum, x_sumT, x_any, x_all, sqB_lst, sqB_tup, x_mSeqB, r1B_, x_mR1, r2B_, x_mR2, x_mEnumL, zpB_l, zpB_t, x_mZip, x_mZipB, zpX_ll, zpX_tt, zpX_tl, zpX_lt, x_rg1, x_rg2, x_mLRg, x_mTRg, x_mLc, wipe1, wipe2, wipe3, x_tTrue, x_fnM, x_pick, x_eqZl, x_neZl, x_eqZt, x_neZt, List.isEmpty_nil, List.isEmpty_cons, deq_ii, x_ite, sizeLine_is, true_and, and_true, forall_const, implies_true, not_true_eq_false, not_false_eq_true, false_implies, true_implies, Bool.true_eq_false, Bool.false_eq_true, decide_eq_true_eq, decide_true, decide_false, Bool.not_true, Bool.not_false, Bool.not_eq_true', decide_eq_false_iff_not, Decidable.not_not, x_flatF, x_mLc2, flat_bl, flat_int, flat_non, x_mR3, r3B_, cast_0, cast_1, cast_2, cast_3, Int.reduceEq, Int.reduceLT, Int.reduceLE, isi_int_non, isi_int_bl, isi_int_int, isi_int_str, isi_int_tup, isi_int_lst, isi_bool_non, isi_bool_bl, isi_bool_int, isi_bool_str, isi_bool_tup, isi_bool_lst, isi_tuple_non, isi_tuple_bl, isi_tuple_int, isi_tuple_str, isi_tuple_tup, isi_tuple_lst, isi_list_non, isi_list_bl, isi_list_int, isi_list_str, isi_list_tup, isi_list_lst, isi_str_non, isi_str_bl, isi_str_int, isi_str_str, isi_str_tup, isi_str_lst, isi_int_dct, isi_bool_dct, isi_tuple_dct, isi_list_dct, isi_str_dct, isi_dict_dct, isNon_dct, isi_q, sqB_q, len_q, isNon_q, q_ix0, q_ix1, q_eq, q_ne, List.length_cons, List.length_nil, Nat.reduceAdd, Nat.reduceLeDiff, Nat.reduceSub, Nat.zero_add, List.set_cons_zero, List.set_cons_succ, List.map_cons, List.map_nil, List.replicate_succ, List.replicate_zero, List.cons_append, List.nil_append, b_law_4]
  refine ⟨⟨by omega, by omega⟩, ?_⟩
  refine for_inv (fun _ en => ∃ a7 a12, en = [.u, .d .src, a2, .d (.tup (sp.map fr)), a4, a5, a6, a7, a8, a9, a10, .d (.tup (((List.range sp.length).filter c).map iD)), a12, a13, a14, a15, a16]) _ 0 ⟨_, _, rfl⟩ (fun i x en hx hI N hN => ?_) fun en hI => ?_
  · obtain ⟨b7, b12, rfl⟩ := hI
    obtain ⟨hi, rfl⟩ := rng_get hx
    rw [Int.zero_add]
    (try simp only [x_sSq, x_sNx, x_sBk, x_sCt, x_sRet, x_sRetN, x_sIf, x_sAsg, x_sOwn, x_sPar, x_sPar3, x_sPx, x_sPx3, x_sPx4, x_xD, x_xF, x_sDrop, x_sFor, atE0, atES, frz_own, frz_d, frz_u, x_sFrz, slV_d, slV_own, slD_d, slO_own, x_sApp, exB_lst, x_sExt, x_sStx, x_gV, x_gD, x_gN, x_gT, x_gC, x_gE, x_mC, x_mL, x_m1, x_m2, x_mT, bB_bl, iB_int, x_mChain, x_mAnd, x_mOr, x_mNot, x_mAndV, x_mOrV, x_mNotV, x_mIte, x_aN, x_aC, x_mTup, x_mLst, x_mCall, x_add, x_addT, x_addL, x_sub, x_mul, x_div, x_mod, x_pow, x_shl, x_neg, x_lt, x_le, x_gt, x_ge, x_ltB, x_leB, x_gtB, x_geB, x_eq, x_ne, x_eqT, x_neT, x_eqL, x_neL, x_eqS, x_neS, x_eqB, x_neB, x_is, x_isN, x_isB, x_isNB, isNon_non, isNon_int, isNon_tup, isNon_lst, isNon_str, isNon_bl, x_inT, x_inL, x_ninT, x_ninL, x_ix0, x_ix1, x_ix2, x_ixl0, x_ixl1, x_ixl2, x_ixl3, oB_int, x_oN, x_oS, slB_lst, slB_tup, x_mSl, lB_lst, x_mSlF, x_mRev, rvB_lst, rvB_tup, x_mRevB, x_mCatF, x_mRepF, x_mulL, x_mulB, x_mulBT, x_lenL, x_lenT, x_abs, x_int, x_intB, x_max2, x_min2, x_tupL, x_tupT, x_lstL, x_lstT, x_sum, x_sumT, x_any, x_all, sqB_lst, sqB_tup, x_mSeqB, r1B_, x_mR1, r2B_, x_mR2, x_mEnumL, zpB_l, zpB_t, x_mZip, x_mZipB, zpX_ll, zpX_tt, zpX_tl, zpX_lt, x_rg1, x_rg2, x_mLRg, x_mTRg, x_mLc, wipe1, wipe2, wipe3, x_tTrue, x_fnM, x_pick, x_eqZl, x_neZl, x_eqZt, x_neZt, List.isEmpty_nil, List.isEmpty_cons, deq_ii, x_ite, sizeLine_is, true_and, and_true, forall_const, implies_true, not_true_eq_false, not_false_eq_true, false_implies, true_implies, Bool.true_eq_false, Bool.false_eq_true, decide_eq_true_eq, decide_true, decide_false, Bool.not_true, Bool.not_false, Bool.not_eq_true', decide_eq_false_iff_not, Decidable.not_not, x_flatF, x_mLc2, flat_bl, flat_int, flat_non, x_mR3, r3B_, cast_0, cast_1, cast_2, cast_3, Int.reduceEq, Int.reduceLT, Int.reduceLE, isi_int_non, isi_int_bl, isi_int_int, isi_int_str, isi_int_tup, isi_int_lst, isi_bool_non, isi_bool_bl, isi_bool_int, isi_bool_str, isi_bool_tup, isi_bool_lst, isi_tuple_non, isi_tuple_bl, isi_tuple_int, isi_tuple_str, isi_tuple_tup, isi_tuple_lst, isi_list_non, isi_list_bl, isi_list_int, isi_list_str, isi_list_tup, isi_list_lst, isi_str_non, isi_str_bl, isi_str_int, isi_str_str, isi_str_tup, isi_str_lst, isi_int_dct, isi_bool_dct, isi_tuple_dct, isi_list_dct, isi_str_dct, isi_dict_dct, isNon_dct, isi_q, sqB_q, len_q, isNon_q, q_ix0, q_ix1, q_eq, q_ne, List.length_cons, List.length_nil, Nat.reduceAdd, Nat.reduceLeDiff, Nat.reduceSub, Nat.zero_add, List.set_cons_zero, List.set_cons_succ, List.map_cons, List.map_nil, List.replicate_succ, List.replicate_zero, List.cons_append, List.nil_append])
    exact z3 (k := i) S.up' hl fun b7 => hN _ ⟨_, _, rfl⟩
  · obtain ⟨b7, b12, rfl⟩ := hI
    have fin : F.nx [.u, .d .src, a2, .d (.tup (sp.map fr)), a4, a5, a6, b7, a8, a9, a10, .d (.tup (((List.range sp.length).filter c).map iD)), b12, a13, a14, a15, a16] := hF _ ⟨_, _, _, _, _, _, _, _, _, _, _, _, _, _, _, rfl⟩
    (try simp only [x_sSq, x_sNx, x_sBk, x_sCt, x_sRet, x_sRetN, x_sIf, x_sAsg, x_sOwn, x_sPar, x_sPar3, x_sPx, x_sPx3, x_sPx4, x_xD, x_xF, x_sDrop, x_sFor, atE0, atES, frz_own, frz_d, frz_u, x_sFrz, slV_d, slV_own, slD_d, slO_own, x_sApp, exB_lst, x_sExt, x_sStx, x_gV, x_gD, x_gN, x_gT, x_gC, x_gE, x_mC, x_mL, x_m1, x_m2, x_mT, bB_bl, iB_int, x_mChain, x_mAnd, x_mOr, x_mNot, x_mAndV, x_mOrV, x_mNotV, x_mIte, x_aN, x_aC, x_mTup, x_mLst, x_mCall, x_add, x_addT, x_addL, x_sub, x_mul, x_div, x_mod, x_pow, x_shl, x_neg, x_lt, x_le, x_gt, x_ge, x_ltB, x_leB, x_gtB, x_geB, x_eq, x_ne, x_eqT, x_neT, x_eqL, x_neL, x_eqS, x_neS, x_eqB, x_neB, x_is, x_isN, x_isB, x_isNB, isNon_non, isNon_int, isNon_tup, isNon_lst, isNon_str, isNon_bl, x_inT, x_inL, x_ninT, x_ninL, x_ix0, x_ix1, x_ix2, x_ixl0, x_ixl1, x_ixl2, x_ixl3, oB_int, x_oN, x_oS, slB_lst, slB_tup, x_mSl, lB_lst, x_mSlF, x_mRev, rvB_lst, rvB_tup, x_mRevB, x_mCatF, x_mRepF, x_mulL, x_mulB, x_mulBT, x_lenL, x_lenT, x_abs, x_int, x_intB, x_max2, x_min2, x_tupL, x_tupT, x_lstL, x_lstT, x_sum, x_sumT, x_any, x_all, sqB_lst, sqB_tup, x_mSeqB, r1B_, x_mR1, r2B_, x_mR2, x_mEnumL, zpB_l, zpB_t, x_mZip, x_mZipB, zpX_ll, zpX_tt, zpX_tl, zpX_lt, x_rg1, x_rg2, x_mLRg, x_mTRg, x_mLc, wipe1, wipe2, wipe3, x_tTrue, x_fnM, x_pick, x_eqZl, x_neZl, x_eqZt, x_neZt, List.isEmpty_nil, List.isEmpty_cons, deq_ii, x_ite, sizeLine_is, true_and, and_true, forall_const, implies_true, not_true_eq_false, not_false_eq_true, false_implies, true_implies, Bool.true_eq_false, Bool.false_eq_true, decide_eq_true_eq, decide_true, decide_false, Bool.not_true, Bool.not_false, Bool.not_eq_true', decide_eq_false_iff_not, Decidable.not_not, x_flatF, x_mLc2, flat_bl, flat_int, flat_non, x_mR3, r3B_, cast_0, cast_1, cast_2, cast_3, Int.reduceEq, Int.reduceLT, Int.reduceLE, isi_int_non, isi_int_bl, isi_int_int, isi_int_str, isi_int_tup, isi_int_lst, isi_bool_non, isi_bool_bl, isi_bool_int, isi_bool_str, isi_bool_tup, isi_bool_lst, isi_tuple_non, isi_tuple_bl, isi_tuple_int, isi_tuple_str, isi_tuple_tup, isi_tuple_lst, isi_list_non, isi_list_bl, isi_list_int, isi_list_str, isi_list_tup, isi_list_lst, isi_str_non, isi_str_bl, isi_str_int, isi_str_str, isi_str_tup, isi_str_lst, isi_int_dct, isi_bool_dct, isi_tuple_dct, isi_list_dct, isi_str_dct, isi_dict_dct, isNon_dct, isi_q, sqB_q, len_q, isNon_q, q_ix0, q_ix1, q_eq, q_ne, List.length_cons, List.length_nil, Nat.reduceAdd, Nat.reduceLeDiff, Nat.reduceSub, Nat.zero_add, List.set_cons_zero, List.set_cons_succ, List.map_cons, List.map_nil, List.replicate_succ, List.replicate_zero, List.cons_append, List.nil_append])
    cases sp with
    | nil =>
      (try simp only [x_sSq, x_sNx, x_sBk, x_sCt, x_sRet, x_sRetN, x_sIf, x_sAsg, x_sOwn, x_sPar, x_sPar3, x_sPx, x_sPx3, x_sPx4, x_xD, x_xF, x_sDrop, x_sFor, atE0, atES, frz_own, frz_d, frz_u, x_sFrz, slV_d, slV_own, slD_d, slO_own, x_sApp, exB_lst, x_sExt, x_sStx, x_gV, x_gD, x_gN, x_gT, x_gC, x_gE, x_mC, x_mL, x_m1, x_m2, x_mT, bB_bl, iB_int, x_mChain, x_mAnd, x_mOr, x_mNot, x_mAndV, x_mOrV, x_mNotV, x_mIte, x_aN, x_aC, x_mTup, x_mLst, x_mCall, x_add, x_addT, x_addL, x_sub, x_mul, x_div, x_mod, x_pow, x_shl, x_neg, x_lt, x_le, x_gt, x_ge, x_ltB, x_leB, x_gtB, x_geB, x_eq, x_ne, x_eqT, x_neT, x_eqL, x_neL, x_eqS, x_neS, x_eqB, x_neB, x_is, x_isN, x_isB, x_isNB, isNon_non, isNon_int, isNon_tup, isNon_lst, isNon_str, isNon_bl, x_inT, x_inL, x_ninT, x_ninL, x_ix0, x_ix1, x_ix2, x_ixl0, x_ixl1, x_ixl2, x_ixl3, oB_int, x_oN, x_oS, slB_lst, slB_tup, x_mSl, lB_lst, x_mSlF, x_mRev, rvB_lst, rvB_tup, x_mRevB, x_mCatF, x_mRepF, x_mulL, x_mulB, x_mulBT, x_lenL, x_lenT, x_abs, x_int, x_intB, x_max2, x_min2, x_tupL, x_tupT, x_lstL, x_lstT, x_sum, x_sumT, x_any, x_all, sqB_lst, sqB_tup, x_mSeqB, r1B_, x_mR1, r2B_, x_mR2, x_mEnumL, zpB_l, zpB_t, x_mZip, x_mZipB, zpX_ll, zpX_tt, zpX_tl, zpX_lt, x_rg1, x_rg2, x_mLRg, x_mTRg, x_mLc, wipe1, wipe2, wipe3, x_tTrue, x_fnM, x_pick, x_eqZl, x_neZl, x_eqZt, x_neZt, List.isEmpty_nil, List.isEmpty_cons, deq_ii, x_ite, sizeLine_is, true_and, and_true, forall_const, implies_true, not_true_eq_false, not_false_eq_true, false_implies, true_implies, Bool.true_eq_false, Bool.false_eq_true, decide_eq_true_eq, decide_true, decide_false, Bool.not_true, Bool.not_false, Bool.not_eq_true', decide_eq_false_iff_not, Decidable.not_not, x_flatF, x_mLc2, flat_bl, flat_int, flat_non, x_mR3, r3B_, cast_0, cast_1, cast_2, cast_3, Int.reduceEq, Int.reduceLT, Int.reduceLE, isi_int_non, isi_int_bl, isi_int_int, isi_int_str, isi_int_tup, isi_int_lst, isi_bool_non, isi_bool_bl, isi_bool_int, isi_bool_str, isi_bool_tup, isi_bool_lst, isi_tuple_non, isi_tuple_bl, isi_tuple_int, isi_tuple_str, isi_tuple_tup, isi_tuple_lst, isi_list_non, isi_list_bl, isi_list_int, isi_list_str, isi_list_tup, isi_list_lst, isi_str_non, isi_str_bl, isi_str_int, isi_str_str, isi_str_tup, isi_str_lst, isi_int_dct, isi_bool_dct, isi_tuple_dct, isi_list_dct, isi_str_dct, isi_dict_dct, isNon_dct, isi_q, sqB_q, len_q, isNon_q, q_ix0, q_ix1, q_eq, q_ne, List.length_cons, List.length_nil, Nat.reduceAdd, Nat.reduceLeDiff, Nat.reduceSub, Nat.zero_add, List.set_cons_zero, List.set_cons_succ, List.map_cons, List.map_nil, List.replicate_succ, List.replicate_zero, List.cons_append, List.nil_append])
      exact fin
    | cons x xs =>
      (try simp only [x_sSq, x_sNx, x_sBk, x_sCt, x_sRet, x_sRetN, x_sIf, x_sAsg, x_sOwn, x_sPar, x_sPar3, x_sPx, x_sPx3, x_sPx4, x_xD, x_xF, x_sDrop, x_sFor, atE0, atES, frz_own, frz_d, frz_u, x_sFrz, slV_d, slV_own, slD_d, slO_own, x_sApp, exB_lst, x_sExt, x_sStx, x_gV, x_gD, x_gN, x_gT, x_gC, x_gE, x_mC, x_mL, x_m1, x_m2, x_mT, bB_bl, iB_int, x_mChain, x_mAnd, x_mOr, x_mNot, x_mAndV, x_mOrV, x_mNotV, x_mIte, x_aN, x_aC, x_mTup, x_mLst, x_mCall, x_add, x_addT, x_addL, x_sub, x_mul, x_div, x_mod, x_pow, x_shl, x_neg, x_lt, x_le, x_gt, x_ge, x_ltB, x_leB, x_gtB, x_geB, x_eq, x_ne, x_eqT, x_neT, x_eqL, x_neL, x_eqS, x_neS, x_eqB, x_neB, x_is, x_isN, x_isB, x_isNB, isNon_non, isNon_int, isNon_tup, isNon_lst, isNon_str, isNon_bl, x_inT, x_inL, x_ninT, x_ninL, x_ix0, x_ix1, x_ix2, x_ixl0, x_ixl1, x_ixl2, x_ixl3, oB_int, x_oN, x_oS, slB_lst, slB_tup, x_mSl, lB_lst, x_mSlF, x_mRev, rvB_lst, rvB_tup, x_mRevB, x_mCatF, x_mRepF, x_mulL, x_mulB, x_mulBT, x_lenL, x_lenT, x_abs, x_int, x_intB, x_max2, x_min2, x_tupL, x_tupT, x_lstL, x_lstT, x_sum, x_sumT, x_any, x_all, sqB_lst, sqB_tup, x_mSeqB, r1B_, x_mR1, r2B_, x_mR2, x_mEnumL, zpB_l, zpB_t, x_mZip, x_mZipB, zpX_ll, zpX_tt, zpX_tl, zpX_lt, x_rg1, x_rg2, x_mLRg, x_mTRg, x_mLc, wipe1, wipe2, wipe3, x_tTrue, x_fnM, x_pick, x_eqZl, x_neZl, x_eqZt, x_neZt, List.isEmpty_nil, List.isEmpty_cons, deq_ii, x_ite, sizeLine_is, true_and, and_true, forall_const, implies_true, not_true_eq_false, not_false_eq_true, false_implies, true_implies, Bool.true_eq_false, Bool.false_eq_true, decide_eq_true_eq, decide_true, decide_false, Bool.not_true, Bool.not_false, Bool.not_eq_true', decide_eq_false_iff_not, Decidable.not_not, x_flatF, x_mLc2, flat_bl, flat_int, flat_non, x_mR3, r3B_, cast_0, cast_1, cast_2, cast_3, Int.reduceEq, Int.reduceLT, Int.reduceLE, isi_int_non, isi_int_bl, isi_int_int, isi_int_str, isi_int_tup, isi_int_lst, isi_bool_non, isi_bool_bl, isi_bool_int, isi_bool_str, isi_bool_tup, isi_bool_lst, isi_tuple_non, isi_tuple_bl, isi_tuple_int, isi_tuple_str, isi_tuple_tup, isi_tuple_lst, isi_list_non, isi_list_bl, isi_list_int, isi_list_str, isi_list_tup, isi_list_lst, isi_str_non, isi_str_bl, isi_str_int, isi_str_str, isi_str_tup, isi_str_lst, isi_int_dct, isi_bool_dct, isi_tuple_dct, isi_list_dct, isi_str_dct, isi_dict_dct, isNon_dct, isi_q, sqB_q, len_q, isNon_q, q_ix0, q_ix1, q_eq, q_ne, List.length_cons, List.length_nil, Nat.reduceAdd, Nat.reduceLeDiff, Nat.reduceSub, Nat.zero_add, List.set_cons_zero, List.set_cons_succ, List.map_cons, List.map_nil, List.replicate_succ, List.replicate_zero, List.cons_append, List.nil_append])
      have hlast : ((x :: xs).map fr)[((x :: xs).map fr).length - 1]? = some (fr ((x :: xs).getLast (by simp))) := by
        rw [List.length_map, List.getElem?_map, ← List.getLast?_eq_getElem?, List.getLast?_eq_some_getLast (by simp)]
        rfl
      have hix := fun Q => (ix_last (Q := Q) hlast).2
      simp only [x_sSq, x_sNx, x_sBk, x_sCt, x_sRet, x_sRetN, x_sIf, x_sAsg, x_sOwn, x_sPar, x_sPar3, x_sPx, x_sPx3, x_sPx4, x_xD, x_xF, x_sDrop, x_sFor, atE0, atES, frz_own, frz_d, frz_u, x_sFrz, slV_d, slV_own, slD_d, slO_own, x_sApp, exB_lst, x_sExt, x_sStx, x_gV, x_gD, x_gN, x_gT, x_gC, x_gE, x_mC, x_mL, x_m1, x_m2, x_mT, bB_bl, iB_int, x_mChain, x_mAnd, x_mOr, x_mNot, x_mAndV, x_mOrV, x_mNotV, x_mIte, x_aN, x_aC, x_mTup, x_mLst, x_mCall, x_add, x_addT, x_addL, x_sub, x_mul, x_div, x_mod, x_pow, x_shl, x_neg, x_lt, x_le, x_gt, x_ge, x_ltB, x_leB, x_gtB, x_geB, x_eq, x_ne, x_eqT, x_neT, x_eqL, x_neL, x_eqS, x_neS, x_eqB, x_neB, x_is, x_isN, x_isB, x_isNB, isNon_non, isNon_int, isNon_tup, isNon_lst, isNon_str, isNon_bl, x_inT, x_inL, x_ninT, x_ninL, x_ix0, x_ix1, x_ix2, x_ixl0, x_ixl1, x_ixl2, x_ixl3, oB_int, x_oN, x_oS, slB_lst, slB_tup, x_mSl, lB_lst, x_mSlF, x_mRev, rvB_lst, rvB_tup, x_mRevB, x_mCatF, x_mRepF, x_mulL, x_mulB, x_mulBT, x_lenL, x_lenT, x_abs, x_int, x_intB, x_max2, x_min2, x_tupL, x_tupT, x_lstL, x_lstT, x_sum, x_sumT, x_any, x_all, sqB_lst, sqB_tup, x_mSeqB, r1B_, x_mR1, r2B_, x_mR2, x_mEnumL, zpB_l, zpB_t, x_mZip, x_mZipB, zpX_ll, zpX_tt, zpX_tl, zpX_lt, x_rg1, x_rg2, x_mLRg, x_mTRg, x_mLc, wipe1, wipe2, wipe3, x_tTrue, x_fnM, x_pick, x_eqZl, x_neZl, x_eqZt, x_neZt, List.isEmpty_nil, List.isEmpty_cons, deq_ii, x_ite, sizeLine_is, true_and, and_true, forall_const, implies_true, not_true_eq_false, not_false_eq_true, false_implies, true_implies, Bool.true_eq_false, Bool.false_eq_true, decide_eq_true_eq, decide_true, decide_false, Bool.not_true, Bool.not_false, Bool.not_eq_true', decide_eq_false_iff_not, Decidable.not_not, x_flatF, x_mLc2, flat_bl, flat_int, flat_non, x_mR3, r3B_, cast_0, cast_1, cast_2, cast_3, Int.reduceEq, Int.reduceLT, Int.reduceLE, isi_int_non, isi_int_bl, isi_int_int, isi_int_str, isi_int_tup, isi_int_lst, isi_bool_non, isi_bool_bl, isi_bool_int, isi_bool_str, isi_bool_tup, isi_bool_lst, isi_tuple_non, isi_tuple_bl, isi_tuple_int, isi_tuple_str, isi_tuple_tup, isi_tuple_lst, isi_list_non, isi_list_bl, isi_list_int, isi_list_str, isi_list_tup, isi_list_lst, isi_str_non, isi_str_bl, isi_str_int, isi_str_str, isi_str_tup, isi_str_lst, isi_int_dct, isi_bool_dct, isi_tuple_dct, isi_list_dct, isi_str_dct, isi_dict_dct, isNon_dct, isi_q, sqB_q, len_q, isNon_q, q_ix0, q_ix1, q_eq, q_ne, List.length_cons, List.length_nil, Nat.reduceAdd, Nat.reduceLeDiff, Nat.reduceSub, Nat.zero_add, List.set_cons_zero, List.set_cons_succ, List.map_cons, List.map_nil, List.replicate_succ, List.replicate_zero, List.cons_append, List.nil_append, fr]
      have hix' : ∀ Q : D → Prop, mIx (.tup (.tup [.int x.1, .int x.2] :: xs.map fr)) (.int (-1)) Q = Q (fr ((x :: xs).getLast (by simp))) := hix
      rw [hix']
      simp only [x_sSq, x_sNx, x_sBk, x_sCt, x_sRet, x_sRetN, x_sIf, x_sAsg, x_sOwn, x_sPar, x_sPar3, x_sPx, x_sPx3, x_sPx4, x_xD, x_xF, x_sDrop, x_sFor, atE0, atES, frz_own, frz_d, frz_u, x_sFrz, slV_d, slV_own, slD_d, slO_own, x_sApp, exB_lst, x_sExt, x_sStx, x_gV, x_gD, x_gN, x_gT, x_gC, x_gE, x_mC, x_mL, x_m1, x_m2, x_mT, bB_bl, iB_int, x_mChain, x_mAnd, x_mOr, x_mNot, x_mAndV, x_mOrV, x_mNotV, x_mIte, x_aN, x_aC, x_mTup, x_mLst, x_mCall, x_add, x_addT, x_addL, x_sub, x_mul, x_div, x_mod, x_pow, x_shl, x_neg, x_lt, x_le, x_gt, x_ge, x_ltB, x_leB, x_gtB, x_geB, x_eq, x_ne, x_eqT, x_neT, x_eqL, x_neL, x_eqS, x_neS, x_eqB, x_neB, x_is, x_isN, x_isB, x_isNB, isNon_non, isNon_int, isNon_tup, isNon_lst, isNon_str, isNon_bl, x_inT, x_inL, x_ninT, x_ninL, x_ix0, x_ix1, x_ix2, x_ixl0, x_ixl1, x_ixl2, x_ixl3, oB_int, x_oN, x_oS, slB_lst, slB_tup, x_mSl, lB_lst, x_mSlF, x_mRev, rvB_lst, rvB_tup, x_mRevB, x_mCatF, x_mRepF, x_mulL, x_mulB, x_mulBT, x_lenL, x_lenT, x_abs, x_int, x_intB, x_max2, x_min2, x_tupL, x_tupT, x_lstL, x_lstT, x_sum, x_sumT, x_any, x_all, sqB_lst, sqB_tup, x_mSeqB, r1B_, x_mR1, r2B_, x_mR2, x_mEnumL, zpB_l, zpB_t, x_mZip, x_mZipB, zpX_ll, zpX_tt, zpX_tl, zpX_lt, x_rg1, x_rg2, x_mLRg, x_mTRg, x_mLc, wipe1, wipe2, wipe3, x_tTrue, x_fnM, x_pick, x_eqZl, x_neZl, x_eqZt, x_neZt, List.isEmpty_nil, List.isEmpty_cons, deq_ii, x_ite, sizeLine_is, true_and, and_true, forall_const, implies_true, not_true_eq_false, not_false_eq_true, false_implies, true_implies, Bool.true_eq_false, Bool.false_eq_true, decide_eq_true_eq, decide_true, decide_false, Bool.not_true, Bool.not_false, Bool.not_eq_true', decide_eq_false_iff_not, Decidable.not_not, x_flatF, x_mLc2, flat_bl, flat_int, flat_non, x_mR3, r3B_, cast_0, cast_1, cast_2, cast_3, Int.reduceEq, Int.reduceLT, Int.reduceLE, isi_int_non, isi_int_bl, isi_int_int, isi_int_str, isi_int_tup, isi_int_lst, isi_bool_non, isi_bool_bl, isi_bool_int, isi_bool_str, isi_bool_tup, isi_bool_lst, isi_tuple_non, isi_tuple_bl, isi_tuple_int, isi_tuple_str, isi_tuple_tup, isi_tuple_lst, isi_list_non, isi_list_bl, isi_list_int, isi_list_str, isi_list_tup, isi_list_lst, isi_str_non, isi_str_bl, isi_str_int, isi_str_str, isi_str_tup, isi_str_lst, isi_int_dct, isi_bool_dct, isi_tuple_dct, isi_list_dct, isi_str_dct, isi_dict_dct, isNon_dct, isi_q, sqB_q, len_q, isNon_q, q_ix0, q_ix1, q_eq, q_ne, List.length_cons, List.length_nil, Nat.reduceAdd, Nat.reduceLeDiff, Nat.reduceSub, Nat.zero_add, List.set_cons_zero, List.set_cons_succ, List.map_cons, List.map_nil, List.replicate_succ, List.replicate_zero, List.cons_append, List.nil_append, fr]
      refine ⟨fun hlt => ?_, fun _ => fin⟩
      have erev : (D.tup [D.int x.1, D.int x.2] :: List.map fr xs).reverse = (x :: xs).reverse.map fr := by
        rw [List.map_reverse]
        rfl
      rw [erev]
      refine sp_row (by rw [List.length_reverse]; omega) (fun y hy => S.ne y (List.mem_reverse.mp hy)) ?_
      have ea : adj (x :: xs).reverse = false := by
        cases hb : adj (x :: xs).reverse with
        | false => rfl
        | true =>
          have h1 := adj_back hb
          rw [List.pairwise_reverse] at h1
          have hm : (x :: xs).getLast (by simp) ∈ x :: xs := List.getLast_mem _
          rcases List.mem_cons.mp hm with e | hm
          · rw [e] at hlt
            omega
          · have := (List.pairwise_cons.mp h1).1 _ hm
            omega
      rw [ea]
      (try simp only [x_sSq, x_sNx, x_sBk, x_sCt, x_sRet, x_sRetN, x_sIf, x_sAsg, x_sOwn, x_sPar, x_sPar3, x_sPx, x_sPx3, x_sPx4, x_xD, x_xF, x_sDrop, x_sFor, atE0, atES, frz_own, frz_d, frz_u, x_sFrz, slV_d, slV_own, slD_d, slO_own, x_sApp, exB_lst, x_sExt, x_sStx, x_gV, x_gD, x_gN, x_gT, x_gC, x_gE, x_mC, x_mL, x_m1, x_m2, x_mT, bB_bl, iB_int, x_mChain, x_mAnd, x_mOr, x_mNot, x_mAndV, x_mOrV, x_mNotV, x_mIte, x_aN, x_aC, x_mTup, x_mLst, x_mCall, x_add, x_addT, x_addL, x_sub, x_mul, x_div, x_mod, x_pow, x_shl, x_neg, x_lt, x_le, x_gt, x_ge, x_ltB, x_leB, x_gtB, x_geB, x_eq, x_ne, x_eqT, x_neT, x_eqL, x_neL, x_eqS, x_neS, x_eqB, x_neB, x_is, x_isN, x_isB, x_isNB, isNon_non, isNon_int, isNon_tup, isNon_lst, isNon_str, isNon_bl, x_inT, x_inL, x_ninT, x_ninL, x_ix0, x_ix1, x_ix2, x_ixl0, x_ixl1, x_ixl2, x_ixl3, oB_int, x_oN, x_oS, slB_lst, slB_tup, x_mSl, lB_lst, x_mSlF, x_mRev, rvB_lst, rvB_tup, x_mRevB, x_mCatF, x_mRepF, x_mulL, x_mulB, x_mulBT, x_lenL, x_lenT, x_abs, x_int, x_intB, x_max2, x_min2, x_tupL, x_tupT, x_lstL, x_lstT, x_sum, x_sumT, x_any, x_all, sqB_lst, sqB_tup, x_mSeqB, r1B_, x_mR1, r2B_, x_mR2, x_mEnumL, zpB_l, zpB_t, x_mZip, x_mZipB, zpX_ll, zpX_tt, zpX_tl, zpX_lt, x_rg1, x_rg2, x_mLRg, x_mTRg, x_mLc, wipe1, wipe2, wipe3, x_tTrue, x_fnM, x_pick, x_eqZl, x_neZl, x_eqZt, x_neZt, List.isEmpty_nil, List.isEmpty_cons, deq_ii, x_ite, sizeLine_is, true_and, and_true, forall_const, implies_true, not_true_eq_false, not_false_eq_true, false_implies, true_implies, Bool.true_eq_false, Bool.false_eq_true, decide_eq_true_eq, decide_true, decide_false, Bool.not_true, Bool.not_false, Bool.not_eq_true', decide_eq_false_iff_not, Decidable.not_not, x_flatF, x_mLc2, flat_bl, flat_int, flat_non, x_mR3, r3B_, cast_0, cast_1, cast_2, cast_3, Int.reduceEq, Int.reduceLT, Int.reduceLE, isi_int_non, isi_int_bl, isi_int_int, isi_int_str, isi_int_tup, isi_int_lst, isi_bool_non, isi_bool_bl, isi_bool_int, isi_bool_str, isi_bool_tup, isi_bool_lst, isi_tuple_non, isi_tuple_bl, isi_tuple_int, isi_tuple_str, isi_tuple_tup, isi_tuple_lst, isi_list_non, isi_list_bl, isi_list_int, isi_list_str, isi_list_tup, isi_list_lst, isi_str_non, isi_str_bl, isi_str_int, isi_str_str, isi_str_tup, isi_str_lst, isi_int_dct, isi_bool_dct, isi_tuple_dct, isi_list_dct, isi_str_dct, isi_dict_dct, isNon_dct, isi_q, sqB_q, len_q, isNon_q, q_ix0, q_ix1, q_eq, q_ne, List.length_cons, List.length_nil, Nat.reduceAdd, Nat.reduceLeDiff, Nat.reduceSub, Nat.zero_add, List.set_cons_zero, List.set_cons_succ, List.map_cons, List.map_nil, List.replicate_succ, List.replicate_zero, List.cons_append, List.nil_append])
      exact fin
theorem z7 (S : Spans sp) (hl : sp.length ≤ 12) (hF : ∀ en, Ok en → F.nx en) :
    b_law_7 F [.u, .d .src, a2, .d (.tup (sp.map fr)), .d (iD (lon sp)), .d (rmsT sp), .own ((rms sp sp.length).map iD), a7, a8, a9, a10, a11, a12, a13, a14, a15, a16] := by
  have U := S.up'
  obtain ⟨es, R⟩ := rm_ex U sp.length (Nat.le_refl _)
  have hlt : ∀ x ∈ rms sp sp.length, x < es.length := fun x hx => by
    obtain ⟨j, hj, e⟩ := List.getElem_of_mem hx
    rw [rms_len] at hj
    have := R.lt j hj
    rw [List.getD_eq_getElem?_getD, List.getElem?_eq_getElem (by rw [rms_len]; exact hj)] at this
    rw [← e]
    exact this
  have hon : ∀ r, r < es.length → r ∈ rms sp sp.length := fun r hr => by
    obtain ⟨j, hj, e⟩ := R.on r hr
    rw [List.getD_eq_getElem?_getD, List.getElem?_eq_getElem (by rw [rms_len]; exact hj)] at e
    rw [← e]
    exact List.getElem_mem _
  have hd := dlen hlt hon
  have hm := R.most U
  have hle := R.len
  have sh := sh_rms (l := rms sp sp.length) (by rw [rms_len]; omega) fun x hx => by have := hlt x hx; omega
  unfold rmsT
  simp only [x_sSq, x_sNx, x_sBk, x_sCt, x_sRet, x_sRetN, x_sIf, x_sAsg, x_sOwn, x_sPar, x_sPar3, x_sPx, x_sPx3, x_sPx4, x_xD, x_xF, x_sDrop, x_sFor, atE0, atES, frz_own, frz_d, frz_u, x_sFrz, slV_d, slV_own, slD_d, slO_own, x_sApp, exB_lst, x_sExt, x_sStx, x_gV, x_gD, x_gN, x_gT, x_gC, x_gE, x_mC, x_mL, x_m1, x_m2, x_mT, bB_bl, iB_int, x_mChain, x_mAnd, x_mOr, x_mNot, x_mAndV, x_mOrV, x_mNotV, x_mIte, x_aN, x_aC, x_mTup, x_mLst, x_mCall, x_add, x_addT, x_addL, x_sub, x_mul, x_div, x_mod, x_pow, x_shl, x_neg, x_lt, x_le, x_gt, x_ge, x_ltB, x_leB, x_gtB, x_geB, x_eq, x_ne, x_eqT, x_neT, x_eqL, x_neL, x_eqS, x_neS, x_eqB, x_neB, x_is, x_isN, x_isB, x_isNB, isNon_non, isNon_int, isNon_tup, isNon_lst, isNon_str, isNon_bl, x_inT, x_inL, x_ninT, x_ninL, x_ix0, x_ix1, x_ix2, x_ixl0, x_ixl1, x_ixl2, x_ixl3, oB_int, x_oN, x_oS, slB_lst, slB_tup, x_mSl, lB_lst, x_mSlF, x_mRev, rvB_lst, rvB_tup, x_mRevB, x_mCatF, x_mRepF, x_mulL, x_mulB, x_mulBT, x_lenL, x_lenT, x_abs, x_int, x_intB, x_max2, x_min2, x_tupL, x_tupT, x_lstL, x_lstT, x_sum, x_sumT, x_any, x_all, sqB_lst, sqB_tup, x_mSeqB, r1B_, x_mR1, r2B_, x_mR2, x_mEnumL, zpB_l, zpB_t, x_mZip, x_mZipB, zpX_ll, zpX_tt, zpX_tl, zpX_lt, x_rg1, x_rg2, x_mLRg, x_mTRg, x_mLc, wipe1, wipe2, wipe3, x_tTrue, x_fnM, x_pick, x_eqZl, x_neZl, x_eqZt, x_neZt, List.isEmpty_nil, List.isEmpty_cons, deq_ii, x_ite, sizeLine_is, true_and, and_true, forall_const, implies_true, not_true_eq_false, not_false_eq_true, false_implies, true_implies, Bool.true_eq_false, Bool.false_eq_true, decide_eq_true_eq, decide_true, decide_false, Bool.not_true, Bool.not_false, Bool.not_eq_true', decide_eq_false_iff_not, Decidable.not_not, x_flatF, x_mLc2, flat_bl, flat_int, flat_non, x_mR3, r3B_, cast_0, cast_1, cast_2, cast_3, Int.reduceEq, Int.reduceLT, Int.reduceLE, isi_int_non, isi_int_bl, isi_int_int, isi_int_str, isi_int_tup, isi_int_lst, isi_bool_non, isi_bool_bl, isi_bool_int, isi_bool_str, isi_bool_tup, isi_bool_lst, isi_tuple_non, isi_tuple_bl, isi_tuple_int, isi_tuple_str, isi_tuple_tup, isi_tuple_lst, isi_list_non, isi_list_bl, isi_list_int, isi_list_str, isi_list_tup, isi_list_lst, isi_str_non, isi_str_bl, isi_str_int, isi_str_str, isi_str_tup, isi_str_lst, isi_int_dct, isi_bool_dct, isi_tuple_dct, isi_list_dct, isi_str_dct, isi_dict_dct, isNon_dct, isi_q, sqB_q, len_q, isNon_q, q_ix0, q_ix1, q_eq, q_ne, List.length_cons, List.length_nil, Nat.reduceAdd, Nat.reduceLeDiff, Nat.reduceSub, Nat.zero_add, List.set_cons_zero, List.set_cons_succ, List.map_cons, List.map_nil, List.replicate_succ, List.replicate_zero, List.cons_append, List.nil_append, b_law_7, repr_eq sh, beq_self_eq_true, List.length_map, rms_len]
  refine ⟨by omega, lc_mapE iD (fun r => D.tup [iD r, .int 0]) (fun r hr Qy Qn hy => ?_) ?_⟩
  · (try simp only [x_sSq, x_sNx, x_sBk, x_sCt, x_sRet, x_sRetN, x_sIf, x_sAsg, x_sOwn, x_sPar, x_sPar3, x_sPx, x_sPx3, x_sPx4, x_xD, x_xF, x_sDrop, x_sFor, atE0, atES, frz_own, frz_d, frz_u, x_sFrz, slV_d, slV_own, slD_d, slO_own, x_sApp, exB_lst, x_sExt, x_sStx, x_gV, x_gD, x_gN, x_gT, x_gC, x_gE, x_mC, x_mL, x_m1, x_m2, x_mT, bB_bl, iB_int, x_mChain, x_mAnd, x_mOr, x_mNot, x_mAndV, x_mOrV, x_mNotV, x_mIte, x_aN, x_aC, x_mTup, x_mLst, x_mCall, x_add, x_addT, x_addL, x_sub, x_mul, x_div, x_mod, x_pow, x_shl, x_neg, x_lt, x_le, x_gt, x_ge, x_ltB, x_leB, x_gtB, x_geB, x_eq, x_ne, x_eqT, x_neT, x_eqL, x_neL, x_eqS, x_neS, x_eqB, x_neB, x_is, x_isN, x_isB, x_isNB, isNon_non, isNon_int, isNon_tup, isNon_lst, isNon_str, isNon_bl, x_inT, x_inL, x_ninT, x_ninL, x_ix0, x_ix1, x_ix2, x_ixl0, x_ixl1, x_ixl2, x_ixl3, oB_int, x_oN, x_oS, slB_lst, slB_tup, x_mSl, lB_lst, x_mSlF, x_mRev, rvB_lst, rvB_tup, x_mRevB, x_mCatF, x_mRepF, x_mulL, x_mulB, x_mulBT, x_lenL, x_lenT, x_abs, x_int, x_intB, x_max2, x_min2, x_tupL, x_tupT, x_lstL, x_lstT, x_sum, x_sumT, x_any, x_all, sqB_lst, sqB_tup, x_mSeqB, r1B_, x_mR1, r2B_, x_mR2, x_mEnumL, zpB_l, zpB_t, x_mZip, x_mZipB, zpX_ll, zpX_tt, zpX_tl, zpX_lt, x_rg1, x_rg2, x_mLRg, x_mTRg, x_mLc, wipe1, wipe2, wipe3, x_tTrue, x_fnM, x_pick, x_eqZl, x_neZl, x_eqZt, x_neZt, List.isEmpty_nil, List.isEmpty_cons, deq_ii, x_ite, sizeLine_is, true_and, and_true, forall_const, implies_true, not_true_eq_false, not_false_eq_true, false_implies, true_implies, Bool.true_eq_false, Bool.false_eq_true, decide_eq_true_eq, decide_true, decide_false, Bool.not_true, Bool.not_false, Bool.not_eq_true', decide_eq_false_iff_not, Decidable.not_not, x_flatF, x_mLc2, flat_bl, flat_int, flat_non, x_mR3, r3B_, cast_0, cast_1, cast_2, cast_3, Int.reduceEq, Int.reduceLT, Int.reduceLE, isi_int_non, isi_int_bl, isi_int_int, isi_int_str, isi_int_tup, isi_int_lst, isi_bool_non, isi_bool_bl, isi_bool_int, isi_bool_str, isi_bool_tup, isi_bool_lst, isi_tuple_non, isi_tuple_bl, isi_tuple_int, isi_tuple_str, isi_tuple_tup, isi_tuple_lst, isi_list_non, isi_list_bl, isi_list_int, isi_list_str, isi_list_tup, isi_list_lst, isi_str_non, isi_str_bl, isi_str_int, isi_str_str, isi_str_tup, isi_str_lst, isi_int_dct, isi_bool_dct, isi_tuple_dct, isi_list_dct, isi_str_dct, isi_dict_dct, isNon_dct, isi_q, sqB_q, len_q, isNon_q, q_ix0, q_ix1, q_eq, q_ne, List.length_cons, List.length_nil, Nat.reduceAdd, Nat.reduceLeDiff, Nat.reduceSub, Nat.zero_add, List.set_cons_zero, List.set_cons_succ, List.map_cons, List.map_nil, List.replicate_succ, List.replicate_zero, List.cons_append, List.nil_append])
    exact hy
  · simp only [x_sSq, x_sNx, x_sBk, x_sCt, x_sRet, x_sRetN, x_sIf, x_sAsg, x_sOwn, x_sPar, x_sPar3, x_sPx, x_sPx3, x_sPx4, x_xD, x_xF, x_sDrop, x_sFor, atE0, atES, frz_own, frz_d, frz_u, x_sFrz, slV_d, slV_own, slD_d, slO_own, x_sApp, exB_lst, x_sExt, x_sStx, x_gV, x_gD, x_gN, x_gT, x_gC, x_gE, x_mC, x_mL, x_m1, x_m2, x_mT, bB_bl, iB_int, x_mChain, x_mAnd, x_mOr, x_mNot, x_mAndV, x_mOrV, x_mNotV, x_mIte, x_aN, x_aC, x_mTup, x_mLst, x_mCall, x_add, x_addT, x_addL, x_sub, x_mul, x_div, x_mod, x_pow, x_shl, x_neg, x_lt, x_le, x_gt, x_ge, x_ltB, x_leB, x_gtB, x_geB, x_eq, x_ne, x_eqT, x_neT, x_eqL, x_neL, x_eqS, x_neS, x_eqB, x_neB, x_is, x_isN, x_isB, x_isNB, isNon_non, isNon_int, isNon_tup, isNon_lst, isNon_str, isNon_bl, x_inT, x_inL, x_ninT, x_ninL, x_ix0, x_ix1, x_ix2, x_ixl0, x_ixl1, x_ixl2, x_ixl3, oB_int, x_oN, x_oS, slB_lst, slB_tup, x_mSl, lB_lst, x_mSlF, x_mRev, rvB_lst, rvB_tup, x_mRevB, x_mCatF, x_mRepF, x_mulL, x_mulB, x_mulBT, x_lenL, x_lenT, x_abs, x_int, x_intB, x_max2, x_min2, x_tupL, x_tupT, x_lstL, x_lstT, x_sum, x_sumT, x_any, x_all, sqB_lst, sqB_tup, x_mSeqB, r1B_, x_mR1, r2B_, x_mR2, x_mEnumL, zpB_l, zpB_t, x_mZip, x_mZipB, zpX_ll, zpX_tt, zpX_tl, zpX_lt, x_rg1, x_rg2, x_mLRg, x_mTRg, x_mLc, wipe1, wipe2, wipe3, x_tTrue, x_fnM, x_pick, x_eqZl, x_neZl, x_eqZt, x_neZt, List.isEmpty_nil, List.isEmpty_cons, deq_ii, x_ite, sizeLine_is, true_and, and_true, forall_const, implies_true, not_true_eq_false, not_false_eq_true, false_implies, true_implies, Bool.true_eq_false, Bool.false_eq_true, decide_eq_true_eq, decide_true, decide_false, Bool.not_true, Bool.not_false, Bool.not_eq_true', decide_eq_false_iff_not, Decidable.not_not, x_flatF, x_mLc2, flat_bl, flat_int, flat_non, x_mR3, r3B_, cast_0, cast_1, cast_2, cast_3, Int.reduceEq, Int.reduceLT, Int.reduceLE, isi_int_non, isi_int_bl, isi_int_int, isi_int_str, isi_int_tup, isi_int_lst, isi_bool_non, isi_bool_bl, isi_bool_int, isi_bool_str, isi_bool_tup, isi_bool_lst, isi_tuple_non, isi_tuple_bl, isi_tuple_int, isi_tuple_str, isi_tuple_tup, isi_tuple_lst, isi_list_non, isi_list_bl, isi_list_int, isi_list_str, isi_list_tup, isi_list_lst, isi_str_non, isi_str_bl, isi_str_int, isi_str_str, isi_str_tup, isi_str_lst, isi_int_dct, isi_bool_dct, isi_tuple_dct, isi_list_dct, isi_str_dct, isi_dict_dct, isNon_dct, isi_q, sqB_q, len_q, isNon_q, q_ix0, q_ix1, q_eq, q_ne, List.length_cons, List.length_nil, Nat.reduceAdd, Nat.reduceLeDiff, Nat.reduceSub, Nat.zero_add, List.set_cons_zero, List.set_cons_succ, List.map_cons, List.map_nil, List.replicate_succ, List.replicate_zero, List.cons_append, List.nil_append, x_dictN, x_lenDc, hd, hm]
    unfold iD
    simp only [x_sSq, x_sNx, x_sBk, x_sCt, x_sRet, x_sRetN, x_sIf, x_sAsg, x_sOwn, x_sPar, x_sPar3, x_sPx, x_sPx3, x_sPx4, x_xD, x_xF, x_sDrop, x_sFor, atE0, atES, frz_own, frz_d, frz_u, x_sFrz, slV_d, slV_own, slD_d, slO_own, x_sApp, exB_lst, x_sExt, x_sStx, x_gV, x_gD, x_gN, x_gT, x_gC, x_gE, x_mC, x_mL, x_m1, x_m2, x_mT, bB_bl, iB_int, x_mChain, x_mAnd, x_mOr, x_mNot, x_mAndV, x_mOrV, x_mNotV, x_mIte, x_aN, x_aC, x_mTup, x_mLst, x_mCall, x_add, x_addT, x_addL, x_sub, x_mul, x_div, x_mod, x_pow, x_shl, x_neg, x_lt, x_le, x_gt, x_ge, x_ltB, x_leB, x_gtB, x_geB, x_eq, x_ne, x_eqT, x_neT, x_eqL, x_neL, x_eqS, x_neS, x_eqB, x_neB, x_is, x_isN, x_isB, x_isNB, isNon_non, isNon_int, isNon_tup, isNon_lst, isNon_str, isNon_bl, x_inT, x_inL, x_ninT, x_ninL, x_ix0, x_ix1, x_ix2, x_ixl0, x_ixl1, x_ixl2, x_ixl3, oB_int, x_oN, x_oS, slB_lst, slB_tup, x_mSl, lB_lst, x_mSlF, x_mRev, rvB_lst, rvB_tup, x_mRevB, x_mCatF, x_mRepF, x_mulL, x_mulB, x_mulBT, x_lenL, x_lenT, x_abs, x_int, x_intB, x_max2, x_min2, x_tupL, x_tupT, x_lstL, x_lstT, x_sum, x_sumT, x_any, x_all, sqB_lst, sqB_tup, x_mSeqB, r1B_, x_mR1, r2B_, x_mR2, x_mEnumL, zpB_l, zpB_t, x_mZip, x_mZipB, zpX_ll, zpX_tt, zpX_tl, zpX_lt, x_rg1, x_rg2, x_mLRg, x_mTRg, x_mLc, wipe1, wipe2, wipe3, x_tTrue, x_fnM, x_pick, x_eqZl, x_neZl, x_eqZt, x_neZt, List.isEmpty_nil, List.isEmpty_cons, deq_ii, x_ite, sizeLine_is, true_and, and_true, forall_const, implies_true, not_true_eq_false, not_false_eq_true, false_implies, true_implies, Bool.true_eq_false, Bool.false_eq_true, decide_eq_true_eq, decide_true, decide_false, Bool.not_true, Bool.not_false, Bool.not_eq_true', decide_eq_false_iff_not, Decidable.not_not, x_flatF, x_mLc2, flat_bl, flat_int, flat_non, x_mR3, r3B_, cast_0, cast_1, cast_2, cast_3, Int.reduceEq, Int.reduceLT, Int.reduceLE, isi_int_non, isi_int_bl, isi_int_int, isi_int_str, isi_int_tup, isi_int_lst, isi_bool_non, isi_bool_bl, isi_bool_int, isi_bool_str, isi_bool_tup, isi_bool_lst, isi_tuple_non, isi_tuple_bl, isi_tuple_int, isi_tuple_str, isi_tuple_tup, isi_tuple_lst, isi_list_non, isi_list_bl, isi_list_int, isi_list_str, isi_list_tup, isi_list_lst, isi_str_non, isi_str_bl, isi_str_int, isi_str_str, isi_str_tup, isi_str_lst, isi_int_dct, isi_bool_dct, isi_tuple_dct, isi_list_dct, isi_str_dct, isi_dict_dct, isNon_dct, isi_q, sqB_q, len_q, isNon_q, q_ix0, q_ix1, q_eq, q_ne, List.length_cons, List.length_nil, Nat.reduceAdd, Nat.reduceLeDiff, Nat.reduceSub, Nat.zero_add, List.set_cons_zero, List.set_cons_succ, List.map_cons, List.map_nil, List.replicate_succ, List.replicate_zero, List.cons_append, List.nil_append, b_law_6, List.length_map]
    refine ⟨rOk_nat (by omega), ?_⟩
    rw [show ((sp.length : Int)).toNat = sp.length from rfl, rng_nat]
    refine for_pre (fun i : Nat => .int (i : Int)) (fun p en => ∃ a7 a14, en = [.u, .d .src, a2, .d (.tup (sp.map fr)), .d (iD (lon sp)), .d (rmsT sp), .own ((rms sp sp.length).map iD), a7, a8, a9, a10, a11, a12, a13, a14, a15, a16]) ⟨_, _, rfl⟩ (fun p i r en e hI N hN => ?_) fun en hI => ?_
    · obtain ⟨b7, b14, rfl⟩ := hI
      have hi : i < sp.length := by
        have : i ∈ List.range sp.length := by rw [e]; exact List.mem_append_right _ List.mem_cons_self
        exact List.mem_range.mp this
      unfold rmsT
      simp only [x_sSq, x_sNx, x_sBk, x_sCt, x_sRet, x_sRetN, x_sIf, x_sAsg, x_sOwn, x_sPar, x_sPar3, x_sPx, x_sPx3, x_sPx4, x_xD, x_xF, x_sDrop, x_sFor, atE0, atES, frz_own, frz_d, frz_u, x_sFrz, slV_d, slV_own, slD_d, slO_own, x_sApp, exB_lst, x_sExt, x_sStx, x_gV, x_gD, x_gN, x_gT, x_gC, x_gE, x_mC, x_mL, x_m1, x_m2, x_mT, bB_bl, iB_int, x_mChain, x_mAnd, x_mOr, x_mNot, x_mAndV, x_mOrV, x_mNotV, x_mIte, x_aN, x_aC, x_mTup, x_mLst, x_mCall, x_add, x_addT, x_addL, x_sub, x_mul, x_div, x_mod, x_pow, x_shl, x_neg, x_lt, x_le, x_gt, x_ge, x_ltB, x_leB, x_gtB, x_geB, x_eq, x_ne, x_eqT, x_neT, x_eqL, x_neL, x_eqS, x_neS, x_eqB, x_neB, x_is, x_isN, x_isB, x_isNB, isNon_non, isNon_int, isNon_tup, isNon_lst, isNon_str, isNon_bl, x_inT, x_inL, x_ninT, x_ninL, x_ix0, x_ix1, x_ix2, x_ixl0, x_ixl1, x_ixl2, x_ixl3, oB_int, x_oN, x_oS, slB_lst, slB_tup, x_mSl, lB_lst, x_mSlF, x_mRev, rvB_lst, rvB_tup, x_mRevB, x_mCatF, x_mRepF, x_mulL, x_mulB, x_mulBT, x_lenL, x_lenT, x_abs, x_int, x_intB, x_max2, x_min2, x_tupL, x_tupT, x_lstL, x_lstT, x_sum, x_sumT, x_any, x_all, sqB_lst, sqB_tup, x_mSeqB, r1B_, x_mR1, r2B_, x_mR2, x_mEnumL, zpB_l, zpB_t, x_mZip, x_mZipB, zpX_ll, zpX_tt, zpX_tl, zpX_lt, x_rg1, x_rg2, x_mLRg, x_mTRg, x_mLc, wipe1, wipe2, wipe3, x_tTrue, x_fnM, x_pick, x_eqZl, x_neZl, x_eqZt, x_neZt, List.isEmpty_nil, List.isEmpty_cons, deq_ii, x_ite, sizeLine_is, true_and, and_true, forall_const, implies_true, not_true_eq_false, not_false_eq_true, false_implies, true_implies, Bool.true_eq_false, Bool.false_eq_true, decide_eq_true_eq, decide_true, decide_false, Bool.not_true, Bool.not_false, Bool.not_eq_true', decide_eq_false_iff_not, Decidable.not_not, x_flatF, x_mLc2, flat_bl, flat_int, flat_non, x_mR3, r3B_, cast_0, cast_1, cast_2, cast_3, Int.reduceEq, Int.reduceLT, Int.reduceLE, isi_int_non, isi_int_bl, isi_int_int, isi_int_str, isi_int_tup, isi_int_lst, isi_bool_non, isi_bool_bl, isi_bool_int, isi_bool_str, isi_bool_tup, isi_bool_lst, isi_tuple_non, isi_tuple_bl, isi_tuple_int, isi_tuple_str, isi_tuple_tup, isi_tuple_lst, isi_list_non, isi_list_bl, isi_list_int, isi_list_str, isi_list_tup, isi_list_lst, isi_str_non, isi_str_bl, isi_str_int, isi_str_str, isi_str_tup, isi_str_lst, isi_int_dct, isi_bool_dct, isi_tuple_dct, isi_list_dct, isi_str_dct, isi_dict_dct, isNon_dct, isi_q, sqB_q, len_q, isNon_q, q_ix0, q_ix1, q_eq, q_ne, List.length_cons, List.length_nil, Nat.reduceAdd, Nat.reduceLeDiff, Nat.reduceSub, Nat.zero_add, List.set_cons_zero, List.set_cons_succ, List.map_cons, List.map_nil, List.replicate_succ, List.replicate_zero, List.cons_append, List.nil_append, b_law_2]
      refine ⟨rOk_nat (by omega), ?_⟩
      rw [show ((i : Int)).toNat = i from rfl, rng_nat]
      refine ⟨by rw [List.length_map, List.length_range]; omega, lc_mapE (fun i : Nat => .int (i : Int)) (fun j => .bl (decide ((rms sp sp.length).getD j 0 = (rms sp sp.length).getD i 0) && decide (Be sp i < En' sp j))) (fun j hj Qy Qn hy => ?_) ?_⟩
      · have hj := List.mem_range.mp hj
        (try simp only [x_sSq, x_sNx, x_sBk, x_sCt, x_sRet, x_sRetN, x_sIf, x_sAsg, x_sOwn, x_sPar, x_sPar3, x_sPx, x_sPx3, x_sPx4, x_xD, x_xF, x_sDrop, x_sFor, atE0, atES, frz_own, frz_d, frz_u, x_sFrz, slV_d, slV_own, slD_d, slO_own, x_sApp, exB_lst, x_sExt, x_sStx, x_gV, x_gD, x_gN, x_gT, x_gC, x_gE, x_mC, x_mL, x_m1, x_m2, x_mT, bB_bl, iB_int, x_mChain, x_mAnd, x_mOr, x_mNot, x_mAndV, x_mOrV, x_mNotV, x_mIte, x_aN, x_aC, x_mTup, x_mLst, x_mCall, x_add, x_addT, x_addL, x_sub, x_mul, x_div, x_mod, x_pow, x_shl, x_neg, x_lt, x_le, x_gt, x_ge, x_ltB, x_leB, x_gtB, x_geB, x_eq, x_ne, x_eqT, x_neT, x_eqL, x_neL, x_eqS, x_neS, x_eqB, x_neB, x_is, x_isN, x_isB, x_isNB, isNon_non, isNon_int, isNon_tup, isNon_lst, isNon_str, isNon_bl, x_inT, x_inL, x_ninT, x_ninL, x_ix0, x_ix1, x_ix2, x_ixl0, x_ixl1, x_ixl2, x_ixl3, oB_int, x_oN, x_oS, slB_lst, slB_tup, x_mSl, lB_lst, x_mSlF, x_mRev, rvB_lst, rvB_tup, x_mRevB, x_mCatF, x_mRepF, x_mulL, x_mulB, x_mulBT, x_lenL, x_lenT, x_abs, x_int, x_intB, x_max2, x_min2, x_tupL, x_tupT, x_lstL, x_lstT, x_sum, x_sumT, x_any, x_all, sqB_lst, sqB_tup, x_mSeqB, r1B_, x_mR1, r2B_, x_mR2, x_mEnumL, zpB_l, zpB_t, x_mZip, x_mZipB, zpX_ll, zpX_tt, zpX_tl, zpX_lt, x_rg1, x_rg2, x_mLRg, x_mTRg, x_mLc, wipe1, wipe2, wipe3, x_tTrue, x_fnM, x_pick, x_eqZl, x_neZl, x_eqZt, x_neZt, List.isEmpty_nil, List.isEmpty_cons, deq_ii, x_ite, sizeLine_is, true_and, and_true, forall_const, implies_true, not_true_eq_false, not_false_eq_true, false_implies, true_implies, Bool.true_eq_false, Bool.false_eq_true, decide_eq_true_eq, decide_true, decide_false, Bool.not_true, Bool.not_false, Bool.not_eq_true', decide_eq_false_iff_not, Decidable.not_not, x_flatF, x_mLc2, flat_bl, flat_int, flat_non, x_mR3, r3B_, cast_0, cast_1, cast_2, cast_3, Int.reduceEq, Int.reduceLT, Int.reduceLE, isi_int_non, isi_int_bl, isi_int_int, isi_int_str, isi_int_tup, isi_int_lst, isi_bool_non, isi_bool_bl, isi_bool_int, isi_bool_str, isi_bool_tup, isi_bool_lst, isi_tuple_non, isi_tuple_bl, isi_tuple_int, isi_tuple_str, isi_tuple_tup, isi_tuple_lst, isi_list_non, isi_list_bl, isi_list_int, isi_list_str, isi_list_tup, isi_list_lst, isi_str_non, isi_str_bl, isi_str_int, isi_str_str, isi_str_tup, isi_str_lst, isi_int_dct, isi_bool_dct, isi_tuple_dct, isi_list_dct, isi_str_dct, isi_dict_dct, isNon_dct, isi_q, sqB_q, len_q, isNon_q, q_ix0, q_ix1, q_eq, q_ne, List.length_cons, List.length_nil, Nat.reduceAdd, Nat.reduceLeDiff, Nat.reduceSub, Nat.zero_add, List.set_cons_zero, List.set_cons_succ, List.map_cons, List.map_nil, List.replicate_succ, List.replicate_zero, List.cons_append, List.nil_append])
        refine ixA j rfl (rms_at (by omega)) (ixA i rfl (rms_at hi) ?_)
        unfold iD
        (try simp only [x_sSq, x_sNx, x_sBk, x_sCt, x_sRet, x_sRetN, x_sIf, x_sAsg, x_sOwn, x_sPar, x_sPar3, x_sPx, x_sPx3, x_sPx4, x_xD, x_xF, x_sDrop, x_sFor, atE0, atES, frz_own, frz_d, frz_u, x_sFrz, slV_d, slV_own, slD_d, slO_own, x_sApp, exB_lst, x_sExt, x_sStx, x_gV, x_gD, x_gN, x_gT, x_gC, x_gE, x_mC, x_mL, x_m1, x_m2, x_mT, bB_bl, iB_int, x_mChain, x_mAnd, x_mOr, x_mNot, x_mAndV, x_mOrV, x_mNotV, x_mIte, x_aN, x_aC, x_mTup, x_mLst, x_mCall, x_add, x_addT, x_addL, x_sub, x_mul, x_div, x_mod, x_pow, x_shl, x_neg, x_lt, x_le, x_gt, x_ge, x_ltB, x_leB, x_gtB, x_geB, x_eq, x_ne, x_eqT, x_neT, x_eqL, x_neL, x_eqS, x_neS, x_eqB, x_neB, x_is, x_isN, x_isB, x_isNB, isNon_non, isNon_int, isNon_tup, isNon_lst, isNon_str, isNon_bl, x_inT, x_inL, x_ninT, x_ninL, x_ix0, x_ix1, x_ix2, x_ixl0, x_ixl1, x_ixl2, x_ixl3, oB_int, x_oN, x_oS, slB_lst, slB_tup, x_mSl, lB_lst, x_mSlF, x_mRev, rvB_lst, rvB_tup, x_mRevB, x_mCatF, x_mRepF, x_mulL, x_mulB, x_mulBT, x_lenL, x_lenT, x_abs, x_int, x_intB, x_max2, x_min2, x_tupL, x_tupT, x_lstL, x_lstT, x_sum, x_sumT, x_any, x_all, sqB_lst, sqB_tup, x_mSeqB, r1B_, x_mR1, r2B_, x_mR2, x_mEnumL, zpB_l, zpB_t, x_mZip, x_mZipB, zpX_ll, zpX_tt, zpX_tl, zpX_lt, x_rg1, x_rg2, x_mLRg, x_mTRg, x_mLc, wipe1, wipe2, wipe3, x_tTrue, x_fnM, x_pick, x_eqZl, x_neZl, x_eqZt, x_neZt, List.isEmpty_nil, List.isEmpty_cons, deq_ii, x_ite, sizeLine_is, true_and, and_true, forall_const, implies_true, not_true_eq_false, not_false_eq_true, false_implies, true_implies, Bool.true_eq_false, Bool.false_eq_true, decide_eq_true_eq, decide_true, decide_false, Bool.not_true, Bool.not_false, Bool.not_eq_true', decide_eq_false_iff_not, Decidable.not_not, x_flatF, x_mLc2, flat_bl, flat_int, flat_non, x_mR3, r3B_, cast_0, cast_1, cast_2, cast_3, Int.reduceEq, Int.reduceLT, Int.reduceLE, isi_int_non, isi_int_bl, isi_int_int, isi_int_str, isi_int_tup, isi_int_lst, isi_bool_non, isi_bool_bl, isi_bool_int, isi_bool_str, isi_bool_tup, isi_bool_lst, isi_tuple_non, isi_tuple_bl, isi_tuple_int, isi_tuple_str, isi_tuple_tup, isi_tuple_lst, isi_list_non, isi_list_bl, isi_list_int, isi_list_str, isi_list_tup, isi_list_lst, isi_str_non, isi_str_bl, isi_str_int, isi_str_str, isi_str_tup, isi_str_lst, isi_int_dct, isi_bool_dct, isi_tuple_dct, isi_list_dct, isi_str_dct, isi_dict_dct, isNon_dct, isi_q, sqB_q, len_q, isNon_q, q_ix0, q_ix1, q_eq, q_ne, List.length_cons, List.length_nil, Nat.reduceAdd, Nat.reduceLeDiff, Nat.reduceSub, Nat.zero_add, List.set_cons_zero, List.set_cons_succ, List.map_cons, List.map_nil, List.replicate_succ, List.replicate_zero, List.cons_append, List.nil_append])
        refine ⟨fun h => ?_, fun h => ?_⟩
        · refine ixA j rfl (sp_get (by omega)) ?_
          simp only [x_sSq, x_sNx, x_sBk, x_sCt, x_sRet, x_sRetN, x_sIf, x_sAsg, x_sOwn, x_sPar, x_sPar3, x_sPx, x_sPx3, x_sPx4, x_xD, x_xF, x_sDrop, x_sFor, atE0, atES, frz_own, frz_d, frz_u, x_sFrz, slV_d, slV_own, slD_d, slO_own, x_sApp, exB_lst, x_sExt, x_sStx, x_gV, x_gD, x_gN, x_gT, x_gC, x_gE, x_mC, x_mL, x_m1, x_m2, x_mT, bB_bl, iB_int, x_mChain, x_mAnd, x_mOr, x_mNot, x_mAndV, x_mOrV, x_mNotV, x_mIte, x_aN, x_aC, x_mTup, x_mLst, x_mCall, x_add, x_addT, x_addL, x_sub, x_mul, x_div, x_mod, x_pow, x_shl, x_neg, x_lt, x_le, x_gt, x_ge, x_ltB, x_leB, x_gtB, x_geB, x_eq, x_ne, x_eqT, x_neT, x_eqL, x_neL, x_eqS, x_neS, x_eqB, x_neB, x_is, x_isN, x_isB, x_isNB, isNon_non, isNon_int, isNon_tup, isNon_lst, isNon_str, isNon_bl, x_inT, x_inL, x_ninT, x_ninL, x_ix0, x_ix1, x_ix2, x_ixl0, x_ixl1, x_ixl2, x_ixl3, oB_int, x_oN, x_oS, slB_lst, slB_tup, x_mSl, lB_lst, x_mSlF, x_mRev, rvB_lst, rvB_tup, x_mRevB, x_mCatF, x_mRepF, x_mulL, x_mulB, x_mulBT, x_lenL, x_lenT, x_abs, x_int, x_intB, x_max2, x_min2, x_tupL, x_tupT, x_lstL, x_lstT, x_sum, x_sumT, x_any, x_all, sqB_lst, sqB_tup, x_mSeqB, r1B_, x_mR1, r2B_, x_mR2, x_mEnumL, zpB_l, zpB_t, x_mZip, x_mZipB, zpX_ll, zpX_tt, zpX_tl, zpX_lt, x_rg1, x_rg2, x_mLRg, x_mTRg, x_mLc, wipe1, wipe2, wipe3, x_tTrue, x_fnM, x_pick, x_eqZl, x_neZl, x_eqZt, x_neZt, List.isEmpty_nil, List.isEmpty_cons, deq_ii, x_ite, sizeLine_is, true_and, and_true, forall_const, implies_true, not_true_eq_false, not_false_eq_true, false_implies, true_implies, Bool.true_eq_false, Bool.false_eq_true, decide_eq_true_eq, decide_true, decide_false, Bool.not_true, Bool.not_false, Bool.not_eq_true', decide_eq_false_iff_not, Decidable.not_not, x_flatF, x_mLc2, flat_bl, flat_int, flat_non, x_mR3, r3B_, cast_0, cast_1, cast_2, cast_3, Int.reduceEq, Int.reduceLT, Int.reduceLE, isi_int_non, isi_int_bl, isi_int_int, isi_int_str, isi_int_tup, isi_int_lst, isi_bool_non, isi_bool_bl, isi_bool_int, isi_bool_str, isi_bool_tup, isi_bool_lst, isi_tuple_non, isi_tuple_bl, isi_tuple_int, isi_tuple_str, isi_tuple_tup, isi_tuple_lst, isi_list_non, isi_list_bl, isi_list_int, isi_list_str, isi_list_tup, isi_list_lst, isi_str_non, isi_str_bl, isi_str_int, isi_str_str, isi_str_tup, isi_str_lst, isi_int_dct, isi_bool_dct, isi_tuple_dct, isi_list_dct, isi_str_dct, isi_dict_dct, isNon_dct, isi_q, sqB_q, len_q, isNon_q, q_ix0, q_ix1, q_eq, q_ne, List.length_cons, List.length_nil, Nat.reduceAdd, Nat.reduceLeDiff, Nat.reduceSub, Nat.zero_add, List.set_cons_zero, List.set_cons_succ, List.map_cons, List.map_nil, List.replicate_succ, List.replicate_zero, List.cons_append, List.nil_append, fr]
          refine ixA i rfl (sp_get hi) ?_
          simp only [x_sSq, x_sNx, x_sBk, x_sCt, x_sRet, x_sRetN, x_sIf, x_sAsg, x_sOwn, x_sPar, x_sPar3, x_sPx, x_sPx3, x_sPx4, x_xD, x_xF, x_sDrop, x_sFor, atE0, atES, frz_own, frz_d, frz_u, x_sFrz, slV_d, slV_own, slD_d, slO_own, x_sApp, exB_lst, x_sExt, x_sStx, x_gV, x_gD, x_gN, x_gT, x_gC, x_gE, x_mC, x_mL, x_m1, x_m2, x_mT, bB_bl, iB_int, x_mChain, x_mAnd, x_mOr, x_mNot, x_mAndV, x_mOrV, x_mNotV, x_mIte, x_aN, x_aC, x_mTup, x_mLst, x_mCall, x_add, x_addT, x_addL, x_sub, x_mul, x_div, x_mod, x_pow, x_shl, x_neg, x_lt, x_le, x_gt, x_ge, x_ltB, x_leB, x_gtB, x_geB, x_eq, x_ne, x_eqT, x_neT, x_eqL, x_neL, x_eqS, x_neS, x_eqB, x_neB, x_is, x_isN, x_isB, x_isNB, isNon_non, isNon_int, isNon_tup, isNon_lst, isNon_str, isNon_bl, x_inT, x_inL, x_ninT, x_ninL, x_ix0, x_ix1, x_ix2, x_ixl0, x_ixl1, x_ixl2, x_ixl3, oB_int, x_oN, x_oS, slB_lst, slB_tup, x_mSl, lB_lst, x_mSlF, x_mRev, rvB_lst, rvB_tup, x_mRevB, x_mCatF, x_mRepF, x_mulL, x_mulB, x_mulBT, x_lenL, x_lenT, x_abs, x_int, x_intB, x_max2, x_min2, x_tupL, x_tupT, x_lstL, x_lstT, x_sum, x_sumT, x_any, x_all, sqB_lst, sqB_tup, x_mSeqB, r1B_, x_mR1, r2B_, x_mR2, x_mEnumL, zpB_l, zpB_t, x_mZip, x_mZipB, zpX_ll, zpX_tt, zpX_tl, zpX_lt, x_rg1, x_rg2, x_mLRg, x_mTRg, x_mLc, wipe1, wipe2, wipe3, x_tTrue, x_fnM, x_pick, x_eqZl, x_neZl, x_eqZt, x_neZt, List.isEmpty_nil, List.isEmpty_cons, deq_ii, x_ite, sizeLine_is, true_and, and_true, forall_const, implies_true, not_true_eq_false, not_false_eq_true, false_implies, true_implies, Bool.true_eq_false, Bool.false_eq_true, decide_eq_true_eq, decide_true, decide_false, Bool.not_true, Bool.not_false, Bool.not_eq_true', decide_eq_false_iff_not, Decidable.not_not, x_flatF, x_mLc2, flat_bl, flat_int, flat_non, x_mR3, r3B_, cast_0, cast_1, cast_2, cast_3, Int.reduceEq, Int.reduceLT, Int.reduceLE, isi_int_non, isi_int_bl, isi_int_int, isi_int_str, isi_int_tup, isi_int_lst, isi_bool_non, isi_bool_bl, isi_bool_int, isi_bool_str, isi_bool_tup, isi_bool_lst, isi_tuple_non, isi_tuple_bl, isi_tuple_int, isi_tuple_str, isi_tuple_tup, isi_tuple_lst, isi_list_non, isi_list_bl, isi_list_int, isi_list_str, isi_list_tup, isi_list_lst, isi_str_non, isi_str_bl, isi_str_int, isi_str_str, isi_str_tup, isi_str_lst, isi_int_dct, isi_bool_dct, isi_tuple_dct, isi_list_dct, isi_str_dct, isi_dict_dct, isNon_dct, isi_q, sqB_q, len_q, isNon_q, q_ix0, q_ix1, q_eq, q_ne, List.length_cons, List.length_nil, Nat.reduceAdd, Nat.reduceLeDiff, Nat.reduceSub, Nat.zero_add, List.set_cons_zero, List.set_cons_succ, List.map_cons, List.map_nil, List.replicate_succ, List.replicate_zero, List.cons_append, List.nil_append, fr]
          rw [decide_eq_true (by omega), Bool.true_and] at hy
          exact hy
        · rw [decide_eq_false (by omega), Bool.false_and] at hy
          exact hy
      · have e1 : (List.range i).map (fun j => D.bl (decide ((rms sp sp.length).getD j 0 = (rms sp sp.length).getD i 0) && decide (Be sp i < En' sp j))) = ((List.range i).map fun j => decide ((rms sp sp.length).getD j 0 = (rms sp sp.length).getD i 0) && decide (Be sp i < En' sp j)).map .bl := by rw [List.map_map]; rfl
        have e2 : ((List.range i).map fun j => decide ((rms sp sp.length).getD j 0 = (rms sp sp.length).getD i 0) && decide (Be sp i < En' sp j)).any id = false := by
          rw [List.any_map, List.any_eq_false]
          intro j hj
          have hj := List.mem_range.mp hj
          show ¬ (decide _ && decide _) = true
          rw [Bool.and_eq_true, decide_eq_true_eq, decide_eq_true_eq]
          rintro ⟨h1, h2⟩
          have := R.apart j i hj hi h1
          omega
        rw [e1, x_any, e2]
        (try simp only [x_sSq, x_sNx, x_sBk, x_sCt, x_sRet, x_sRetN, x_sIf, x_sAsg, x_sOwn, x_sPar, x_sPar3, x_sPx, x_sPx3, x_sPx4, x_xD, x_xF, x_sDrop, x_sFor, atE0, atES, frz_own, frz_d, frz_u, x_sFrz, slV_d, slV_own, slD_d, slO_own, x_sApp, exB_lst, x_sExt, x_sStx, x_gV, x_gD, x_gN, x_gT, x_gC, x_gE, x_mC, x_mL, x_m1, x_m2, x_mT, bB_bl, iB_int, x_mChain, x_mAnd, x_mOr, x_mNot, x_mAndV, x_mOrV, x_mNotV, x_mIte, x_aN, x_aC, x_mTup, x_mLst, x_mCall, x_add, x_addT, x_addL, x_sub, x_mul, x_div, x_mod, x_pow, x_shl, x_neg, x_lt, x_le, x_gt, x_ge, x_ltB, x_leB, x_gtB, x_geB, x_eq, x_ne, x_eqT, x_neT, x_eqL, x_neL, x_eqS, x_neS, x_eqB, x_neB, x_is, x_isN, x_isB, x_isNB, isNon_non, isNon_int, isNon_tup, isNon_lst, isNon_str, isNon_bl, x_inT, x_inL, x_ninT, x_ninL, x_ix0, x_ix1, x_ix2, x_ixl0, x_ixl1, x_ixl2, x_ixl3, oB_int, x_oN, x_oS, slB_lst, slB_tup, x_mSl, lB_lst, x_mSlF, x_mRev, rvB_lst, rvB_tup, x_mRevB, x_mCatF, x_mRepF, x_mulL, x_mulB, x_mulBT, x_lenL, x_lenT, x_abs, x_int, x_intB, x_max2, x_min2, x_tupL, x_tupT, x_lstL, x_lstT, x_sum, x_sumT, x_any, x_all, sqB_lst, sqB_tup, x_mSeqB, r1B_, x_mR1, r2B_, x_mR2, x_mEnumL, zpB_l, zpB_t, x_mZip, x_mZipB, zpX_ll, zpX_tt, zpX_tl, zpX_lt, x_rg1, x_rg2, x_mLRg, x_mTRg, x_mLc, wipe1, wipe2, wipe3, x_tTrue, x_fnM, x_pick, x_eqZl, x_neZl, x_eqZt, x_neZt, List.isEmpty_nil, List.isEmpty_cons, deq_ii, x_ite, sizeLine_is, true_and, and_true, forall_const, implies_true, not_true_eq_false, not_false_eq_true, false_implies, true_implies, Bool.true_eq_false, Bool.false_eq_true, decide_eq_true_eq, decide_true, decide_false, Bool.not_true, Bool.not_false, Bool.not_eq_true', decide_eq_false_iff_not, Decidable.not_not, x_flatF, x_mLc2, flat_bl, flat_int, flat_non, x_mR3, r3B_, cast_0, cast_1, cast_2, cast_3, Int.reduceEq, Int.reduceLT, Int.reduceLE, isi_int_non, isi_int_bl, isi_int_int, isi_int_str, isi_int_tup, isi_int_lst, isi_bool_non, isi_bool_bl, isi_bool_int, isi_bool_str, isi_bool_tup, isi_bool_lst, isi_tuple_non, isi_tuple_bl, isi_tuple_int, isi_tuple_str, isi_tuple_tup, isi_tuple_lst, isi_list_non, isi_list_bl, isi_list_int, isi_list_str, isi_list_tup, isi_list_lst, isi_str_non, isi_str_bl, isi_str_int, isi_str_str, isi_str_tup, isi_str_lst, isi_int_dct, isi_bool_dct, isi_tuple_dct, isi_list_dct, isi_str_dct, isi_dict_dct, isNon_dct, isi_q, sqB_q, len_q, isNon_q, q_ix0, q_ix1, q_eq, q_ne, List.length_cons, List.length_nil, Nat.reduceAdd, Nat.reduceLeDiff, Nat.reduceSub, Nat.zero_add, List.set_cons_zero, List.set_cons_succ, List.map_cons, List.map_nil, List.replicate_succ, List.replicate_zero, List.cons_append, List.nil_append])
        exact hN _ ⟨_, _, rfl⟩
    · obtain ⟨b7, b14, rfl⟩ := hI
      simp only [x_sSq, x_sNx, x_sBk, x_sCt, x_sRet, x_sRetN, x_sIf, x_sAsg, x_sOwn, x_sPar, x_sPar3, x_sPx, x_sPx3, x_sPx4, x_xD, x_xF, x_sDrop, x_sFor, atE0, atES, frz_own, frz_d, frz_u, x_sFrz, slV_d, slV_own, slD_d, slO_own, x_sApp, exB_lst, x_sExt, x_sStx, x_gV, x_gD, x_gN, x_gT, x_gC, x_gE, x_mC, x_mL, x_m1, x_m2, x_mT, bB_bl, iB_int, x_mChain, x_mAnd, x_mOr, x_mNot, x_mAndV, x_mOrV, x_mNotV, x_mIte, x_aN, x_aC, x_mTup, x_mLst, x_mCall, x_add, x_addT, x_addL, x_sub, x_mul, x_div, x_mod, x_pow, x_shl, x_neg, x_lt, x_le, x_gt, x_ge, x_ltB, x_leB, x_gtB, x_geB, x_eq, x_ne, x_eqT, x_neT, x_eqL, x_neL, x_eqS, x_neS, x_eqB, x_neB, x_is, x_isN, x_isB, x_isNB, isNon_non, isNon_int, isNon_tup, isNon_lst, isNon_str, isNon_bl, x_inT, x_inL, x_ninT, x_ninL, x_ix0, x_ix1, x_ix2, x_ixl0, x_ixl1, x_ixl2, x_ixl3, oB_int, x_oN, x_oS, slB_lst, slB_tup, x_mSl, lB_lst, x_mSlF, x_mRev, rvB_lst, rvB_tup, x_mRevB, x_mCatF, x_mRepF, x_mulL, x_mulB, x_mulBT, x_lenL, x_lenT, x_abs, x_int, x_intB, x_max2, x_min2, x_tupL, x_tupT, x_lstL, x_lstT, x_sum, x_sumT, x_any, x_all, sqB_lst, sqB_tup, x_mSeqB, r1B_, x_mR1, r2B_, x_mR2, x_mEnumL, zpB_l, zpB_t, x_mZip, x_mZipB, zpX_ll, zpX_tt, zpX_tl, zpX_lt, x_rg1, x_rg2, x_mLRg, x_mTRg, x_mLc, wipe1, wipe2, wipe3, x_tTrue, x_fnM, x_pick, x_eqZl, x_neZl, x_eqZt, x_neZt, List.isEmpty_nil, List.isEmpty_cons, deq_ii, x_ite, sizeLine_is, true_and, and_true, forall_const, implies_true, not_true_eq_false, not_false_eq_true, false_implies, true_implies, Bool.true_eq_false, Bool.false_eq_true, decide_eq_true_eq, decide_true, decide_false, Bool.not_true, Bool.not_false, Bool.not_eq_true', decide_eq_false_iff_not, Decidable.not_not, x_flatF, x_mLc2, flat_bl, flat_int, flat_non, x_mR3, r3B_, cast_0, cast_1, cast_2, cast_3, Int.reduceEq, Int.reduceLT, Int.reduceLE, isi_int_non, isi_int_bl, isi_int_int, isi_int_str, isi_int_tup, isi_int_lst, isi_bool_non, isi_bool_bl, isi_bool_int, isi_bool_str, isi_bool_tup, isi_bool_lst, isi_tuple_non, isi_tuple_bl, isi_tuple_int, isi_tuple_str, isi_tuple_tup, isi_tuple_lst, isi_list_non, isi_list_bl, isi_list_int, isi_list_str, isi_list_tup, isi_list_lst, isi_str_non, isi_str_bl, isi_str_int, isi_str_str, isi_str_tup, isi_str_lst, isi_int_dct, isi_bool_dct, isi_tuple_dct, isi_list_dct, isi_str_dct, isi_dict_dct, isNon_dct, isi_q, sqB_q, len_q, isNon_q, q_ix0, q_ix1, q_eq, q_ne, List.length_cons, List.length_nil, Nat.reduceAdd, Nat.reduceLeDiff, Nat.reduceSub, Nat.zero_add, List.set_cons_zero, List.set_cons_succ, List.map_cons, List.map_nil, List.replicate_succ, List.replicate_zero, List.cons_append, List.nil_append, b_law_5, List.length_map]
      refine ⟨rOk_nat (by omega), ?_⟩
      rw [show ((sp.length : Int)).toNat = sp.length from rfl, rng_nat]
      refine ⟨by rw [List.length_map, List.length_range]; omega, lc_any (fun i : Nat => .int (i : Int)) iD _ [] List.nodup_range (fun i hi Qy Qn hy hn => ?_) fun c => ?_⟩
      · (try simp only [x_sSq, x_sNx, x_sBk, x_sCt, x_sRet, x_sRetN, x_sIf, x_sAsg, x_sOwn, x_sPar, x_sPar3, x_sPx, x_sPx3, x_sPx4, x_xD, x_xF, x_sDrop, x_sFor, atE0, atES, frz_own, frz_d, frz_u, x_sFrz, slV_d, slV_own, slD_d, slO_own, x_sApp, exB_lst, x_sExt, x_sStx, x_gV, x_gD, x_gN, x_gT, x_gC, x_gE, x_mC, x_mL, x_m1, x_m2, x_mT, bB_bl, iB_int, x_mChain, x_mAnd, x_mOr, x_mNot, x_mAndV, x_mOrV, x_mNotV, x_mIte, x_aN, x_aC, x_mTup, x_mLst, x_mCall, x_add, x_addT, x_addL, x_sub, x_mul, x_div, x_mod, x_pow, x_shl, x_neg, x_lt, x_le, x_gt, x_ge, x_ltB, x_leB, x_gtB, x_geB, x_eq, x_ne, x_eqT, x_neT, x_eqL, x_neL, x_eqS, x_neS, x_eqB, x_neB, x_is, x_isN, x_isB, x_isNB, isNon_non, isNon_int, isNon_tup, isNon_lst, isNon_str, isNon_bl, x_inT, x_inL, x_ninT, x_ninL, x_ix0, x_ix1, x_ix2, x_ixl0, x_ixl1, x_ixl2, x_ixl3, oB_int, x_oN, x_oS, slB_lst, slB_tup, x_mSl, lB_lst, x_mSlF, x_mRev, rvB_lst, rvB_tup, x_mRevB, x_mCatF, x_mRepF, x_mulL, x_mulB, x_mulBT, x_lenL, x_lenT, x_abs, x_int, x_intB, x_max2, x_min2, x_tupL, x_tupT, x_lstL, x_lstT, x_sum, x_sumT, x_any, x_all, sqB_lst, sqB_tup, x_mSeqB, r1B_, x_mR1, r2B_, x_mR2, x_mEnumL, zpB_l, zpB_t, x_mZip, x_mZipB, zpX_ll, zpX_tt, zpX_tl, zpX_lt, x_rg1, x_rg2, x_mLRg, x_mTRg, x_mLc, wipe1, wipe2, wipe3, x_tTrue, x_fnM, x_pick, x_eqZl, x_neZl, x_eqZt, x_neZt, List.isEmpty_nil, List.isEmpty_cons, deq_ii, x_ite, sizeLine_is, true_and, and_true, forall_const, implies_true, not_true_eq_false, not_false_eq_true, false_implies, true_implies, Bool.true_eq_false, Bool.false_eq_true, decide_eq_true_eq, decide_true, decide_false, Bool.not_true, Bool.not_false, Bool.not_eq_true', decide_eq_false_iff_not, Decidable.not_not, x_flatF, x_mLc2, flat_bl, flat_int, flat_non, x_mR3, r3B_, cast_0, cast_1, cast_2, cast_3, Int.reduceEq, Int.reduceLT, Int.reduceLE, isi_int_non, isi_int_bl, isi_int_int, isi_int_str, isi_int_tup, isi_int_lst, isi_bool_non, isi_bool_bl, isi_bool_int, isi_bool_str, isi_bool_tup, isi_bool_lst, isi_tuple_non, isi_tuple_bl, isi_tuple_int, isi_tuple_str, isi_tuple_tup, isi_tuple_lst, isi_list_non, isi_list_bl, isi_list_int, isi_list_str, isi_list_tup, isi_list_lst, isi_str_non, isi_str_bl, isi_str_int, isi_str_str, isi_str_tup, isi_str_lst, isi_int_dct, isi_bool_dct, isi_tuple_dct, isi_list_dct, isi_str_dct, isi_dict_dct, isNon_dct, isi_q, sqB_q, len_q, isNon_q, q_ix0, q_ix1, q_eq, q_ne, List.length_cons, List.length_nil, Nat.reduceAdd, Nat.reduceLeDiff, Nat.reduceSub, Nat.zero_add, List.set_cons_zero, List.set_cons_succ, List.map_cons, List.map_nil, List.replicate_succ, List.replicate_zero, List.cons_append, List.nil_append])
        exact ⟨log_lt (by decide), fun r _ _ => ⟨fun _ => hy, fun _ => hn⟩⟩
      · rw [List.nil_append]
        (try simp only [x_sSq, x_sNx, x_sBk, x_sCt, x_sRet, x_sRetN, x_sIf, x_sAsg, x_sOwn, x_sPar, x_sPar3, x_sPx, x_sPx3, x_sPx4, x_xD, x_xF, x_sDrop, x_sFor, atE0, atES, frz_own, frz_d, frz_u, x_sFrz, slV_d, slV_own, slD_d, slO_own, x_sApp, exB_lst, x_sExt, x_sStx, x_gV, x_gD, x_gN, x_gT, x_gC, x_gE, x_mC, x_mL, x_m1, x_m2, x_mT, bB_bl, iB_int, x_mChain, x_mAnd, x_mOr, x_mNot, x_mAndV, x_mOrV, x_mNotV, x_mIte, x_aN, x_aC, x_mTup, x_mLst, x_mCall, x_add, x_addT, x_addL, x_sub, x_mul, x_div, x_mod, x_pow, x_shl, x_neg, x_lt, x_le, x_gt, x_ge, x_ltB, x_leB, x_gtB, x_geB, x_eq, x_ne, x_eqT, x_neT, x_eqL, x_neL, x_eqS, x_neS, x_eqB, x_neB, x_is, x_isN, x_isB, x_isNB, isNon_non, isNon_int, isNon_tup, isNon_lst, isNon_str, isNon_bl, x_inT, x_inL, x_ninT, x_ninL, x_ix0, x_ix1, x_ix2, x_ixl0, x_ixl1, x_ixl2, x_ixl3, oB_int, x_oN, x_oS, slB_lst, slB_tup, x_mSl, lB_lst, x_mSlF, x_mRev, rvB_lst, rvB_tup, x_mRevB, x_mCatF, x_mRepF, x_mulL, x_mulB, x_mulBT, x_lenL, x_lenT, x_abs, x_int, x_intB, x_max2, x_min2, x_tupL, x_tupT, x_lstL, x_lstT, x_sum, x_sumT, x_any, x_all, sqB_lst, sqB_tup, x_mSeqB, r1B_, x_mR1, r2B_, x_mR2, x_mEnumL, zpB_l, zpB_t, x_mZip, x_mZipB, zpX_ll, zpX_tt, zpX_tl, zpX_lt, x_rg1, x_rg2, x_mLRg, x_mTRg, x_mLc, wipe1, wipe2, wipe3, x_tTrue, x_fnM, x_pick, x_eqZl, x_neZl, x_eqZt, x_neZt, List.isEmpty_nil, List.isEmpty_cons, deq_ii, x_ite, sizeLine_is, true_and, and_true, forall_const, implies_true, not_true_eq_false, not_false_eq_true, false_implies, true_implies, Bool.true_eq_false, Bool.false_eq_true, decide_eq_true_eq, decide_true, decide_false, Bool.not_true, Bool.not_false, Bool.not_eq_true', decide_eq_false_iff_not, Decidable.not_not, x_flatF, x_mLc2, flat_bl, flat_int, flat_non, x_mR3, r3B_, cast_0, cast_1, cast_2, cast_3, Int.reduceEq, Int.reduceLT, Int.reduceLE, isi_int_non, isi_int_bl, isi_int_int, isi_int_str, isi_int_tup, isi_int_lst, isi_bool_non, isi_bool_bl, isi_bool_int, isi_bool_str, isi_bool_tup, isi_bool_lst, isi_tuple_non, isi_tuple_bl, isi_tuple_int, isi_tuple_str, isi_tuple_tup, isi_tuple_lst, isi_list_non, isi_list_bl, isi_list_int, isi_list_str, isi_list_tup, isi_list_lst, isi_str_non, isi_str_bl, isi_str_int, isi_str_str, isi_str_tup, isi_str_lst, isi_int_dct, isi_bool_dct, isi_tuple_dct, isi_list_dct, isi_str_dct, isi_dict_dct, isNon_dct, isi_q, sqB_q, len_q, isNon_q, q_ix0, q_ix1, q_eq, q_ne, List.length_cons, List.length_nil, Nat.reduceAdd, Nat.reduceLeDiff, Nat.reduceSub, Nat.zero_add, List.set_cons_zero, List.set_cons_succ, List.map_cons, List.map_nil, List.replicate_succ, List.replicate_zero, List.cons_append, List.nil_append])
        exact z4 S hl hF
theorem z12 (S : Spans sp) (hl : sp.length ≤ 12) {a4 a5 a6 : DL.Slot} (hF : ∀ en, Ok en → F.nx en) :
    b_law_11 F [.u, .d .src, a2, .d (.tup (sp.map fr)), a4, a5, a6, a7, a8, a9, a10, a11, a12, a13, a14, a15, a16] := by
  have U := S.up'
  have eo := onc_all U
  simp only [x_sSq, x_sNx, x_sBk, x_sCt, x_sRet, x_sRetN, x_sIf, x_sAsg, x_sOwn, x_sPar, x_sPar3, x_sPx, x_sPx3, x_sPx4, x_xD, x_xF, x_sDrop, x_sFor, atE0, atES, frz_own, frz_d, frz_u, x_sFrz, slV_d, slV_own, slD_d, slO_own, x_sApp, exB_lst, x_sExt, x_sStx, x_gV, x_gD, x_gN, x_gT, x_gC, x_gE, x_mC, x_mL, x_m1, x_m2, x_mT, bB_bl, iB_int, x_mChain, x_mAnd, x_mOr, x_mNot, x_mAndV, x_mOrV, x_mNotV, x_mIte, x_aN, x_aC, x_mTup, x_mLst, x_mCall, x_add, x_addT, x_addL, x_sub, x_mul, x_div, x_mod, x_pow, x_shl, x_neg, x_lt, x_le, x_gt, x_ge, x_ltB, x_leB, x_gtB, x_geB, x_eq, x_ne, x_eqT, x_neT, x_eqL, x_neL, x_eqS, x_neS, x_eqB, x_neB, x_is, x_isN, x_isB, x_isNB, isNon_non, isNon_int, isNon_tup, isNon_lst, isNon_str, isNon_bl, x_inT, x_inL, x_ninT, x_ninL, x_ix0, x_ix1, x_ix2, x_ixl0, x_ixl1, x_ixl2, x_ixl3, oB_int, x_oN, x_oS, slB_lst, slB_tup, x_mSl, lB_lst, x_mSlF, x_mRev, rvB_lst, rvB_tup, x_mRevB, x_mCatF, x_mRepF, x_mulL, x_mulB, x_mulBT, x_lenL, x_lenT, x_abs, x_int, x_intB, x_max2, x_min2, x_tupL, x_tupT, x_lstL, x_lstT, x_sum, x_sumT, x_any, x_all, sqB_lst, sqB_tup, x_mSeqB, r1B_, x_mR1, r2B_, x_mR2, x_mEnumL, zpB_l, zpB_t, x_mZip, x_mZipB, zpX_ll, zpX_tt, zpX_tl, zpX_lt, x_rg1, x_rg2, x_mLRg, x_mTRg, x_mLc, wipe1, wipe2, wipe3, x_tTrue, x_fnM, x_pick, x_eqZl, x_neZl, x_eqZt, x_neZt, List.isEmpty_nil, List.isEmpty_cons, deq_ii, x_ite, sizeLine_is, true_and, and_true, forall_const, implies_true, not_true_eq_false, not_false_eq_true, false_implies, true_implies, Bool.true_eq_false, Bool.false_eq_true, decide_eq_true_eq, decide_true, decide_false, Bool.not_true, Bool.not_false, Bool.not_eq_true', decide_eq_false_iff_not, Decidable.not_not, x_flatF, x_mLc2, flat_bl, flat_int, flat_non, x_mR3, r3B_, cast_0, cast_1, cast_2, cast_3, Int.reduceEq, Int.reduceLT, Int.reduceLE, isi_int_non, isi_int_bl, isi_int_int, isi_int_str, isi_int_tup, isi_int_lst, isi_bool_non, isi_bool_bl, isi_bool_int, isi_bool_str, isi_bool_tup, isi_bool_lst, isi_tuple_non, isi_tuple_bl, isi_tuple_int, isi_tuple_str, isi_tuple_tup, isi_tuple_lst, isi_list_non, isi_list_bl, isi_list_int, isi_list_str, isi_list_tup, isi_list_lst, isi_str_non, isi_str_bl, isi_str_int, isi_str_str, isi_str_tup, isi_str_lst, isi_int_dct, isi_bool_dct, isi_tuple_dct, isi_list_dct, isi_str_dct, isi_dict_dct, isNon_dct, isi_q, sqB_q, len_q, isNon_q, q_ix0, q_ix1, q_eq, q_ne, List.length_cons, List.length_nil, Nat.reduceAdd, Nat.reduceLeDiff, Nat.reduceSub, Nat.zero_add, List.set_cons_zero, List.set_cons_succ, List.map_cons, List.map_nil, List.replicate_succ, List.replicate_zero, List.cons_append, List.nil_append, b_law_11]
  refine sp_lonceT (by omega) ?_
  simp only [x_sSq, x_sNx, x_sBk, x_sCt, x_sRet, x_sRetN, x_sIf, x_sAsg, x_sOwn, x_sPar, x_sPar3, x_sPx, x_sPx3, x_sPx4, x_xD, x_xF, x_sDrop, x_sFor, atE0, atES, frz_own, frz_d, frz_u, x_sFrz, slV_d, slV_own, slD_d, slO_own, x_sApp, exB_lst, x_sExt, x_sStx, x_gV, x_gD, x_gN, x_gT, x_gC, x_gE, x_mC, x_mL, x_m1, x_m2, x_mT, bB_bl, iB_int, x_mChain, x_mAnd, x_mOr, x_mNot, x_mAndV, x_mOrV, x_mNotV, x_mIte, x_aN, x_aC, x_mTup, x_mLst, x_mCall, x_add, x_addT, x_addL, x_sub, x_mul, x_div, x_mod, x_pow, x_shl, x_neg, x_lt, x_le, x_gt, x_ge, x_ltB, x_leB, x_gtB, x_geB, x_eq, x_ne, x_eqT, x_neT, x_eqL, x_neL, x_eqS, x_neS, x_eqB, x_neB, x_is, x_isN, x_isB, x_isNB, isNon_non, isNon_int, isNon_tup, isNon_lst, isNon_str, isNon_bl, x_inT, x_inL, x_ninT, x_ninL, x_ix0, x_ix1, x_ix2, x_ixl0, x_ixl1, x_ixl2, x_ixl3, oB_int, x_oN, x_oS, slB_lst, slB_tup, x_mSl, lB_lst, x_mSlF, x_mRev, rvB_lst, rvB_tup, x_mRevB, x_mCatF, x_mRepF, x_mulL, x_mulB, x_mulBT, x_lenL, x_lenT, x_abs, x_int, x_intB, x_max2, x_min2, x_tupL, x_tupT, x_lstL, x_lstT, x_sum, x_sumT, x_any, x_all, sqB_lst, sqB_tup, x_mSeqB, r1B_, x_mR1, r2B_, x_mR2, x_mEnumL, zpB_l, zpB_t, x_mZip, x_mZipB, zpX_ll, zpX_tt, zpX_tl, zpX_lt, x_rg1, x_rg2, x_mLRg, x_mTRg, x_mLc, wipe1, wipe2, wipe3, x_tTrue, x_fnM, x_pick, x_eqZl, x_neZl, x_eqZt, x_neZt, List.isEmpty_nil, List.isEmpty_cons, deq_ii, x_ite, sizeLine_is, true_and, and_true, forall_const, implies_true, not_true_eq_false, not_false_eq_true, false_implies, true_implies, Bool.true_eq_false, Bool.false_eq_true, decide_eq_true_eq, decide_true, decide_false, Bool.not_true, Bool.not_false, Bool.not_eq_true', decide_eq_false_iff_not, Decidable.not_not, x_flatF, x_mLc2, flat_bl, flat_int, flat_non, x_mR3, r3B_, cast_0, cast_1, cast_2, cast_3, Int.reduceEq, Int.reduceLT, Int.reduceLE, isi_int_non, isi_int_bl, isi_int_int, isi_int_str, isi_int_tup, isi_int_lst, isi_bool_non, isi_bool_bl, isi_bool_int, isi_bool_str, isi_bool_tup, isi_bool_lst, isi_tuple_non, isi_tuple_bl, isi_tuple_int, isi_tuple_str, isi_tuple_tup, isi_tuple_lst, isi_list_non, isi_list_bl, isi_list_int, isi_list_str, isi_list_tup, isi_list_lst, isi_str_non, isi_str_bl, isi_str_int, isi_str_str, isi_str_tup, isi_str_lst, isi_int_dct, isi_bool_dct, isi_tuple_dct, isi_list_dct, isi_str_dct, isi_dict_dct, isNon_dct, isi_q, sqB_q, len_q, isNon_q, q_ix0, q_ix1, q_eq, q_ne, List.length_cons, List.length_nil, Nat.reduceAdd, Nat.reduceLeDiff, Nat.reduceSub, Nat.zero_add, List.set_cons_zero, List.set_cons_succ, List.map_cons, List.map_nil, List.replicate_succ, List.replicate_zero, List.cons_append, List.nil_append, b_law_10]
  refine sp_row (by omega) S.ne ?_
  rw [adj_up S.up]
  (try simp only [x_sSq, x_sNx, x_sBk, x_sCt, x_sRet, x_sRetN, x_sIf, x_sAsg, x_sOwn, x_sPar, x_sPar3, x_sPx, x_sPx3, x_sPx4, x_xD, x_xF, x_sDrop, x_sFor, atE0, atES, frz_own, frz_d, frz_u, x_sFrz, slV_d, slV_own, slD_d, slO_own, x_sApp, exB_lst, x_sExt, x_sStx, x_gV, x_gD, x_gN, x_gT, x_gC, x_gE, x_mC, x_mL, x_m1, x_m2, x_mT, bB_bl, iB_int, x_mChain, x_mAnd, x_mOr, x_mNot, x_mAndV, x_mOrV, x_mNotV, x_mIte, x_aN, x_aC, x_mTup, x_mLst, x_mCall, x_add, x_addT, x_addL, x_sub, x_mul, x_div, x_mod, x_pow, x_shl, x_neg, x_lt, x_le, x_gt, x_ge, x_ltB, x_leB, x_gtB, x_geB, x_eq, x_ne, x_eqT, x_neT, x_eqL, x_neL, x_eqS, x_neS, x_eqB, x_neB, x_is, x_isN, x_isB, x_isNB, isNon_non, isNon_int, isNon_tup, isNon_lst, isNon_str, isNon_bl, x_inT, x_inL, x_ninT, x_ninL, x_ix0, x_ix1, x_ix2, x_ixl0, x_ixl1, x_ixl2, x_ixl3, oB_int, x_oN, x_oS, slB_lst, slB_tup, x_mSl, lB_lst, x_mSlF, x_mRev, rvB_lst, rvB_tup, x_mRevB, x_mCatF, x_mRepF, x_mulL, x_mulB, x_mulBT, x_lenL, x_lenT, x_abs, x_int, x_intB, x_max2, x_min2, x_tupL, x_tupT, x_lstL, x_lstT, x_sum, x_sumT, x_any, x_all, sqB_lst, sqB_tup, x_mSeqB, r1B_, x_mR1, r2B_, x_mR2, x_mEnumL, zpB_l, zpB_t, x_mZip, x_mZipB, zpX_ll, zpX_tt, zpX_tl, zpX_lt, x_rg1, x_rg2, x_mLRg, x_mTRg, x_mLc, wipe1, wipe2, wipe3, x_tTrue, x_fnM, x_pick, x_eqZl, x_neZl, x_eqZt, x_neZt, List.isEmpty_nil, List.isEmpty_cons, deq_ii, x_ite, sizeLine_is, true_and, and_true, forall_const, implies_true, not_true_eq_false, not_false_eq_true, false_implies, true_implies, Bool.true_eq_false, Bool.false_eq_true, decide_eq_true_eq, decide_true, decide_false, Bool.not_true, Bool.not_false, Bool.not_eq_true', decide_eq_false_iff_not, Decidable.not_not, x_flatF, x_mLc2, flat_bl, flat_int, flat_non, x_mR3, r3B_, cast_0, cast_1, cast_2, cast_3, Int.reduceEq, Int.reduceLT, Int.reduceLE, isi_int_non, isi_int_bl, isi_int_int, isi_int_str, isi_int_tup, isi_int_lst, isi_bool_non, isi_bool_bl, isi_bool_int, isi_bool_str, isi_bool_tup, isi_bool_lst, isi_tuple_non, isi_tuple_bl, isi_tuple_int, isi_tuple_str, isi_tuple_tup, isi_tuple_lst, isi_list_non, isi_list_bl, isi_list_int, isi_list_str, isi_list_tup, isi_list_lst, isi_str_non, isi_str_bl, isi_str_int, isi_str_str, isi_str_tup, isi_str_lst, isi_int_dct, isi_bool_dct, isi_tuple_dct, isi_list_dct, isi_str_dct, isi_dict_dct, isNon_dct, isi_q, sqB_q, len_q, isNon_q, q_ix0, q_ix1, q_eq, q_ne, List.length_cons, List.length_nil, Nat.reduceAdd, Nat.reduceLeDiff, Nat.reduceSub, Nat.zero_add, List.set_cons_zero, List.set_cons_succ, List.map_cons, List.map_nil, List.replicate_succ, List.replicate_zero, List.cons_append, List.nil_append])
  refine sp_onceT (by omega) ?_
  rw [eo]
  unfold iD
  (try simp only [x_sSq, x_sNx, x_sBk, x_sCt, x_sRet, x_sRetN, x_sIf, x_sAsg, x_sOwn, x_sPar, x_sPar3, x_sPx, x_sPx3, x_sPx4, x_xD, x_xF, x_sDrop, x_sFor, atE0, atES, frz_own, frz_d, frz_u, x_sFrz, slV_d, slV_own, slD_d, slO_own, x_sApp, exB_lst, x_sExt, x_sStx, x_gV, x_gD, x_gN, x_gT, x_gC, x_gE, x_mC, x_mL, x_m1, x_m2, x_mT, bB_bl, iB_int, x_mChain, x_mAnd, x_mOr, x_mNot, x_mAndV, x_mOrV, x_mNotV, x_mIte, x_aN, x_aC, x_mTup, x_mLst, x_mCall, x_add, x_addT, x_addL, x_sub, x_mul, x_div, x_mod, x_pow, x_shl, x_neg, x_lt, x_le, x_gt, x_ge, x_ltB, x_leB, x_gtB, x_geB, x_eq, x_ne, x_eqT, x_neT, x_eqL, x_neL, x_eqS, x_neS, x_eqB, x_neB, x_is, x_isN, x_isB, x_isNB, isNon_non, isNon_int, isNon_tup, isNon_lst, isNon_str, isNon_bl, x_inT, x_inL, x_ninT, x_ninL, x_ix0, x_ix1, x_ix2, x_ixl0, x_ixl1, x_ixl2, x_ixl3, oB_int, x_oN, x_oS, slB_lst, slB_tup, x_mSl, lB_lst, x_mSlF, x_mRev, rvB_lst, rvB_tup, x_mRevB, x_mCatF, x_mRepF, x_mulL, x_mulB, x_mulBT, x_lenL, x_lenT, x_abs, x_int, x_intB, x_max2, x_min2, x_tupL, x_tupT, x_lstL, x_lstT, x_sum, x_sumT, x_any, x_all, sqB_lst, sqB_tup, x_mSeqB, r1B_, x_mR1, r2B_, x_mR2, x_mEnumL, zpB_l, zpB_t, x_mZip, x_mZipB, zpX_ll, zpX_tt, zpX_tl, zpX_lt, x_rg1, x_rg2, x_mLRg, x_mTRg, x_mLc, wipe1, wipe2, wipe3, x_tTrue, x_fnM, x_pick, x_eqZl, x_neZl, x_eqZt, x_neZt, List.isEmpty_nil, List.isEmpty_cons, deq_ii, x_ite, sizeLine_is, true_and, and_true, forall_const, implies_true, not_true_eq_false, not_false_eq_true, false_implies, true_implies, Bool.true_eq_false, Bool.false_eq_true, decide_eq_true_eq, decide_true, decide_false, Bool.not_true, Bool.not_false, Bool.not_eq_true', decide_eq_false_iff_not, Decidable.not_not, x_flatF, x_mLc2, flat_bl, flat_int, flat_non, x_mR3, r3B_, cast_0, cast_1, cast_2, cast_3, Int.reduceEq, Int.reduceLT, Int.reduceLE, isi_int_non, isi_int_bl, isi_int_int, isi_int_str, isi_int_tup, isi_int_lst, isi_bool_non, isi_bool_bl, isi_bool_int, isi_bool_str, isi_bool_tup, isi_bool_lst, isi_tuple_non, isi_tuple_bl, isi_tuple_int, isi_tuple_str, isi_tuple_tup, isi_tuple_lst, isi_list_non, isi_list_bl, isi_list_int, isi_list_str, isi_list_tup, isi_list_lst, isi_str_non, isi_str_bl, isi_str_int, isi_str_str, isi_str_tup, isi_str_lst, isi_int_dct, isi_bool_dct, isi_tuple_dct, isi_list_dct, isi_str_dct, isi_dict_dct, isNon_dct, isi_q, sqB_q, len_q, isNon_q, q_ix0, q_ix1, q_eq, q_ne, List.length_cons, List.length_nil, Nat.reduceAdd, Nat.reduceLeDiff, Nat.reduceSub, Nat.zero_add, List.set_cons_zero, List.set_cons_succ, List.map_cons, List.map_nil, List.replicate_succ, List.replicate_zero, List.cons_append, List.nil_append])
  simp only [x_sSq, x_sNx, x_sBk, x_sCt, x_sRet, x_sRetN, x_sIf, x_sAsg, x_sOwn, x_sPar, x_sPar3, x_sPx, x_sPx3, x_sPx4, x_xD, x_xF, x_sDrop, x_sFor, atE0, atES, frz_own, frz_d, frz_u, x_sFrz, slV_d, slV_own, slD_d, slO_own, x_sApp, exB_lst, x_sExt, x_sStx, x_gV, x_gD, x_gN, x_gT, x_gC, x_gE, x_mC, x_mL, x_m1, x_m2, x_mT, bB_bl, iB_int, x_mChain, x_mAnd, x_mOr, x_mNot, x_mAndV, x_mOrV, x_mNotV, x_mIte, x_aN, x_aC, x_mTup, x_mLst, x_mCall, x_add, x_addT, x_addL, x_sub, x_mul, x_div, x_mod, x_pow, x_shl, x_neg, x_lt, x_le, x_gt, x_ge, x_ltB, x_leB, x_gtB, x_geB, x_eq, x_ne, x_eqT, x_neT, x_eqL, x_neL, x_eqS, x_neS, x_eqB, x_neB, x_is, x_isN, x_isB, x_isNB, isNon_non, isNon_int, isNon_tup, isNon_lst, isNon_str, isNon_bl, x_inT, x_inL, x_ninT, x_ninL, x_ix0, x_ix1, x_ix2, x_ixl0, x_ixl1, x_ixl2, x_ixl3, oB_int, x_oN, x_oS, slB_lst, slB_tup, x_mSl, lB_lst, x_mSlF, x_mRev, rvB_lst, rvB_tup, x_mRevB, x_mCatF, x_mRepF, x_mulL, x_mulB, x_mulBT, x_lenL, x_lenT, x_abs, x_int, x_intB, x_max2, x_min2, x_tupL, x_tupT, x_lstL, x_lstT, x_sum, x_sumT, x_any, x_all, sqB_lst, sqB_tup, x_mSeqB, r1B_, x_mR1, r2B_, x_mR2, x_mEnumL, zpB_l, zpB_t, x_mZip, x_mZipB, zpX_ll, zpX_tt, zpX_tl, zpX_lt, x_rg1, x_rg2, x_mLRg, x_mTRg, x_mLc, wipe1, wipe2, wipe3, x_tTrue, x_fnM, x_pick, x_eqZl, x_neZl, x_eqZt, x_neZt, List.isEmpty_nil, List.isEmpty_cons, deq_ii, x_ite, sizeLine_is, true_and, and_true, forall_const, implies_true, not_true_eq_false, not_false_eq_true, false_implies, true_implies, Bool.true_eq_false, Bool.false_eq_true, decide_eq_true_eq, decide_true, decide_false, Bool.not_true, Bool.not_false, Bool.not_eq_true', decide_eq_false_iff_not, Decidable.not_not, x_flatF, x_mLc2, flat_bl, flat_int, flat_non, x_mR3, r3B_, cast_0, cast_1, cast_2, cast_3, Int.reduceEq, Int.reduceLT, Int.reduceLE, isi_int_non, isi_int_bl, isi_int_int, isi_int_str, isi_int_tup, isi_int_lst, isi_bool_non, isi_bool_bl, isi_bool_int, isi_bool_str, isi_bool_tup, isi_bool_lst, isi_tuple_non, isi_tuple_bl, isi_tuple_int, isi_tuple_str, isi_tuple_tup, isi_tuple_lst, isi_list_non, isi_list_bl, isi_list_int, isi_list_str, isi_list_tup, isi_list_lst, isi_str_non, isi_str_bl, isi_str_int, isi_str_str, isi_str_tup, isi_str_lst, isi_int_dct, isi_bool_dct, isi_tuple_dct, isi_list_dct, isi_str_dct, isi_dict_dct, isNon_dct, isi_q, sqB_q, len_q, isNon_q, q_ix0, q_ix1, q_eq, q_ne, List.length_cons, List.length_nil, Nat.reduceAdd, Nat.reduceLeDiff, Nat.reduceSub, Nat.zero_add, List.set_cons_zero, List.set_cons_succ, List.map_cons, List.map_nil, List.replicate_succ, List.replicate_zero, List.cons_append, List.nil_append, b_law_9]
  refine sp_rooms U (by omega) ?_
  (try simp only [x_sSq, x_sNx, x_sBk, x_sCt, x_sRet, x_sRetN, x_sIf, x_sAsg, x_sOwn, x_sPar, x_sPar3, x_sPx, x_sPx3, x_sPx4, x_xD, x_xF, x_sDrop, x_sFor, atE0, atES, frz_own, frz_d, frz_u, x_sFrz, slV_d, slV_own, slD_d, slO_own, x_sApp, exB_lst, x_sExt, x_sStx, x_gV, x_gD, x_gN, x_gT, x_gC, x_gE, x_mC, x_mL, x_m1, x_m2, x_mT, bB_bl, iB_int, x_mChain, x_mAnd, x_mOr, x_mNot, x_mAndV, x_mOrV, x_mNotV, x_mIte, x_aN, x_aC, x_mTup, x_mLst, x_mCall, x_add, x_addT, x_addL, x_sub, x_mul, x_div, x_mod, x_pow, x_shl, x_neg, x_lt, x_le, x_gt, x_ge, x_ltB, x_leB, x_gtB, x_geB, x_eq, x_ne, x_eqT, x_neT, x_eqL, x_neL, x_eqS, x_neS, x_eqB, x_neB, x_is, x_isN, x_isB, x_isNB, isNon_non, isNon_int, isNon_tup, isNon_lst, isNon_str, isNon_bl, x_inT, x_inL, x_ninT, x_ninL, x_ix0, x_ix1, x_ix2, x_ixl0, x_ixl1, x_ixl2, x_ixl3, oB_int, x_oN, x_oS, slB_lst, slB_tup, x_mSl, lB_lst, x_mSlF, x_mRev, rvB_lst, rvB_tup, x_mRevB, x_mCatF, x_mRepF, x_mulL, x_mulB, x_mulBT, x_lenL, x_lenT, x_abs, x_int, x_intB, x_max2, x_min2, x_tupL, x_tupT, x_lstL, x_lstT, x_sum, x_sumT, x_any, x_all, sqB_lst, sqB_tup, x_mSeqB, r1B_, x_mR1, r2B_, x_mR2, x_mEnumL, zpB_l, zpB_t, x_mZip, x_mZipB, zpX_ll, zpX_tt, zpX_tl, zpX_lt, x_rg1, x_rg2, x_mLRg, x_mTRg, x_mLc, wipe1, wipe2, wipe3, x_tTrue, x_fnM, x_pick, x_eqZl, x_neZl, x_eqZt, x_neZt, List.isEmpty_nil, List.isEmpty_cons, deq_ii, x_ite, sizeLine_is, true_and, and_true, forall_const, implies_true, not_true_eq_false, not_false_eq_true, false_implies, true_implies, Bool.true_eq_false, Bool.false_eq_true, decide_eq_true_eq, decide_true, decide_false, Bool.not_true, Bool.not_false, Bool.not_eq_true', decide_eq_false_iff_not, Decidable.not_not, x_flatF, x_mLc2, flat_bl, flat_int, flat_non, x_mR3, r3B_, cast_0, cast_1, cast_2, cast_3, Int.reduceEq, Int.reduceLT, Int.reduceLE, isi_int_non, isi_int_bl, isi_int_int, isi_int_str, isi_int_tup, isi_int_lst, isi_bool_non, isi_bool_bl, isi_bool_int, isi_bool_str, isi_bool_tup, isi_bool_lst, isi_tuple_non, isi_tuple_bl, isi_tuple_int, isi_tuple_str, isi_tuple_tup, isi_tuple_lst, isi_list_non, isi_list_bl, isi_list_int, isi_list_str, isi_list_tup, isi_list_lst, isi_str_non, isi_str_bl, isi_str_int, isi_str_str, isi_str_tup, isi_str_lst, isi_int_dct, isi_bool_dct, isi_tuple_dct, isi_list_dct, isi_str_dct, isi_dict_dct, isNon_dct, isi_q, sqB_q, len_q, isNon_q, q_ix0, q_ix1, q_eq, q_ne, List.length_cons, List.length_nil, Nat.reduceAdd, Nat.reduceLeDiff, Nat.reduceSub, Nat.zero_add, List.set_cons_zero, List.set_cons_succ, List.map_cons, List.map_nil, List.replicate_succ, List.replicate_zero, List.cons_append, List.nil_append])
  simp only [x_sSq, x_sNx, x_sBk, x_sCt, x_sRet, x_sRetN, x_sIf, x_sAsg, x_sOwn, x_sPar, x_sPar3, x_sPx, x_sPx3, x_sPx4, x_xD, x_xF, x_sDrop, x_sFor, atE0, atES, frz_own, frz_d, frz_u, x_sFrz, slV_d, slV_own, slD_d, slO_own, x_sApp, exB_lst, x_sExt, x_sStx, x_gV, x_gD, x_gN, x_gT, x_gC, x_gE, x_mC, x_mL, x_m1, x_m2, x_mT, bB_bl, iB_int, x_mChain, x_mAnd, x_mOr, x_mNot, x_mAndV, x_mOrV, x_mNotV, x_mIte, x_aN, x_aC, x_mTup, x_mLst, x_mCall, x_add, x_addT, x_addL, x_sub, x_mul, x_div, x_mod, x_pow, x_shl, x_neg, x_lt, x_le, x_gt, x_ge, x_ltB, x_leB, x_gtB, x_geB, x_eq, x_ne, x_eqT, x_neT, x_eqL, x_neL, x_eqS, x_neS, x_eqB, x_neB, x_is, x_isN, x_isB, x_isNB, isNon_non, isNon_int, isNon_tup, isNon_lst, isNon_str, isNon_bl, x_inT, x_inL, x_ninT, x_ninL, x_ix0, x_ix1, x_ix2, x_ixl0, x_ixl1, x_ixl2, x_ixl3, oB_int, x_oN, x_oS, slB_lst, slB_tup, x_mSl, lB_lst, x_mSlF, x_mRev, rvB_lst, rvB_tup, x_mRevB, x_mCatF, x_mRepF, x_mulL, x_mulB, x_mulBT, x_lenL, x_lenT, x_abs, x_int, x_intB, x_max2, x_min2, x_tupL, x_tupT, x_lstL, x_lstT, x_sum, x_sumT, x_any, x_all, sqB_lst, sqB_tup, x_mSeqB, r1B_, x_mR1, r2B_, x_mR2, x_mEnumL, zpB_l, zpB_t, x_mZip, x_mZipB, zpX_ll, zpX_tt, zpX_tl, zpX_lt, x_rg1, x_rg2, x_mLRg, x_mTRg, x_mLc, wipe1, wipe2, wipe3, x_tTrue, x_fnM, x_pick, x_eqZl, x_neZl, x_eqZt, x_neZt, List.isEmpty_nil, List.isEmpty_cons, deq_ii, x_ite, sizeLine_is, true_and, and_true, forall_const, implies_true, not_true_eq_false, not_false_eq_true, false_implies, true_implies, Bool.true_eq_false, Bool.false_eq_true, decide_eq_true_eq, decide_true, decide_false, Bool.not_true, Bool.not_false, Bool.not_eq_true', decide_eq_false_iff_not, Decidable.not_not, x_flatF, x_mLc2, flat_bl, flat_int, flat_non, x_mR3, r3B_, cast_0, cast_1, cast_2, cast_3, Int.reduceEq, Int.reduceLT, Int.reduceLE, isi_int_non, isi_int_bl, isi_int_int, isi_int_str, isi_int_tup, isi_int_lst, isi_bool_non, isi_bool_bl, isi_bool_int, isi_bool_str, isi_bool_tup, isi_bool_lst, isi_tuple_non, isi_tuple_bl, isi_tuple_int, isi_tuple_str, isi_tuple_tup, isi_tuple_lst, isi_list_non, isi_list_bl, isi_list_int, isi_list_str, isi_list_tup, isi_list_lst, isi_str_non, isi_str_bl, isi_str_int, isi_str_str, isi_str_tup, isi_str_lst, isi_int_dct, isi_bool_dct, isi_tuple_dct, isi_list_dct, isi_str_dct, isi_dict_dct, isNon_dct, isi_q, sqB_q, len_q, isNon_q, q_ix0, q_ix1, q_eq, q_ne, List.length_cons, List.length_nil, Nat.reduceAdd, Nat.reduceLeDiff, Nat.reduceSub, Nat.zero_add, List.set_cons_zero, List.set_cons_succ, List.map_cons, List.map_nil, List.replicate_succ, List.replicate_zero, List.cons_append, List.nil_append, b_law_8]
  refine for_inv (fun i en => ∃ a7 a8 a9 a10 a14 a16, en = [.u, .d .src, a2, .d (.tup (sp.map fr)), .d (iD (lon sp)), .d (rmsT sp), .own ((rms sp i).map iD), a7, a8, a9, a10, a11, a12, a13, a14, a15, a16]) _ 0 ⟨_, _, _, _, _, _, rfl⟩ (fun i x en hx hI N hN => ?_) fun en hI => ?_
  · obtain ⟨b7, b8, b9, b10, b14, b16, rfl⟩ := hI
    rw [Nat.zero_add] at hN ⊢
    rw [enumD_get] at hx
    cases hy : (sp.map fr)[i]? with
    | none =>
      rw [hy] at hx
      cases hx
    | some y =>
      rw [hy] at hx
      cases hx
      obtain ⟨hi, rfl⟩ := fr_get hy
      rw [Nat.zero_add]
      simp only [x_sSq, x_sNx, x_sBk, x_sCt, x_sRet, x_sRetN, x_sIf, x_sAsg, x_sOwn, x_sPar, x_sPar3, x_sPx, x_sPx3, x_sPx4, x_xD, x_xF, x_sDrop, x_sFor, atE0, atES, frz_own, frz_d, frz_u, x_sFrz, slV_d, slV_own, slD_d, slO_own, x_sApp, exB_lst, x_sExt, x_sStx, x_gV, x_gD, x_gN, x_gT, x_gC, x_gE, x_mC, x_mL, x_m1, x_m2, x_mT, bB_bl, iB_int, x_mChain, x_mAnd, x_mOr, x_mNot, x_mAndV, x_mOrV, x_mNotV, x_mIte, x_aN, x_aC, x_mTup, x_mLst, x_mCall, x_add, x_addT, x_addL, x_sub, x_mul, x_div, x_mod, x_pow, x_shl, x_neg, x_lt, x_le, x_gt, x_ge, x_ltB, x_leB, x_gtB, x_geB, x_eq, x_ne, x_eqT, x_neT, x_eqL, x_neL, x_eqS, x_neS, x_eqB, x_neB, x_is, x_isN, x_isB, x_isNB, isNon_non, isNon_int, isNon_tup, isNon_lst, isNon_str, isNon_bl, x_inT, x_inL, x_ninT, x_ninL, x_ix0, x_ix1, x_ix2, x_ixl0, x_ixl1, x_ixl2, x_ixl3, oB_int, x_oN, x_oS, slB_lst, slB_tup, x_mSl, lB_lst, x_mSlF, x_mRev, rvB_lst, rvB_tup, x_mRevB, x_mCatF, x_mRepF, x_mulL, x_mulB, x_mulBT, x_lenL, x_lenT, x_abs, x_int, x_intB, x_max2, x_min2, x_tupL, x_tupT, x_lstL, x_lstT, x_sum, x_sumT, x_any, x_all, sqB_lst, sqB_tup, x_mSeqB, r1B_, x_mR1, r2B_, x_mR2, x_mEnumL, zpB_l, zpB_t, x_mZip, x_mZipB, zpX_ll, zpX_tt, zpX_tl, zpX_lt, x_rg1, x_rg2, x_mLRg, x_mTRg, x_mLc, wipe1, wipe2, wipe3, x_tTrue, x_fnM, x_pick, x_eqZl, x_neZl, x_eqZt, x_neZt, List.isEmpty_nil, List.isEmpty_cons, deq_ii, x_ite, sizeLine_is, true_and, and_true, forall_const, implies_true, not_true_eq_false, not_false_eq_true, false_implies, true_implies, Bool.true_eq_false, Bool.false_eq_true, decide_eq_true_eq, decide_true, decide_false, Bool.not_true, Bool.not_false, Bool.not_eq_true', decide_eq_false_iff_not, Decidable.not_not, x_flatF, x_mLc2, flat_bl, flat_int, flat_non, x_mR3, r3B_, cast_0, cast_1, cast_2, cast_3, Int.reduceEq, Int.reduceLT, Int.reduceLE, isi_int_non, isi_int_bl, isi_int_int, isi_int_str, isi_int_tup, isi_int_lst, isi_bool_non, isi_bool_bl, isi_bool_int, isi_bool_str, isi_bool_tup, isi_bool_lst, isi_tuple_non, isi_tuple_bl, isi_tuple_int, isi_tuple_str, isi_tuple_tup, isi_tuple_lst, isi_list_non, isi_list_bl, isi_list_int, isi_list_str, isi_list_tup, isi_list_lst, isi_str_non, isi_str_bl, isi_str_int, isi_str_str, isi_str_tup, isi_str_lst, isi_int_dct, isi_bool_dct, isi_tuple_dct, isi_list_dct, isi_str_dct, isi_dict_dct, isNon_dct, isi_q, sqB_q, len_q, isNon_q, q_ix0, q_ix1, q_eq, q_ne, List.length_cons, List.length_nil, Nat.reduceAdd, Nat.reduceLeDiff, Nat.reduceSub, Nat.zero_add, List.set_cons_zero, List.set_cons_succ, List.map_cons, List.map_nil, List.replicate_succ, List.replicate_zero, List.cons_append, List.nil_append, fr]
      exact z1 U hl hi fun b10 b14 b16 => hN _ ⟨_, _, _, _, _, _, rfl⟩
  · obtain ⟨b7, b8, b9, b10, b14, b16, rfl⟩ := hI
    rw [enumD_len, List.length_map, Nat.zero_add]
    (try simp only [x_sSq, x_sNx, x_sBk, x_sCt, x_sRet, x_sRetN, x_sIf, x_sAsg, x_sOwn, x_sPar, x_sPar3, x_sPx, x_sPx3, x_sPx4, x_xD, x_xF, x_sDrop, x_sFor, atE0, atES, frz_own, frz_d, frz_u, x_sFrz, slV_d, slV_own, slD_d, slO_own, x_sApp, exB_lst, x_sExt, x_sStx, x_gV, x_gD, x_gN, x_gT, x_gC, x_gE, x_mC, x_mL, x_m1, x_m2, x_mT, bB_bl, iB_int, x_mChain, x_mAnd, x_mOr, x_mNot, x_mAndV, x_mOrV, x_mNotV, x_mIte, x_aN, x_aC, x_mTup, x_mLst, x_mCall, x_add, x_addT, x_addL, x_sub, x_mul, x_div, x_mod, x_pow, x_shl, x_neg, x_lt, x_le, x_gt, x_ge, x_ltB, x_leB, x_gtB, x_geB, x_eq, x_ne, x_eqT, x_neT, x_eqL, x_neL, x_eqS, x_neS, x_eqB, x_neB, x_is, x_isN, x_isB, x_isNB, isNon_non, isNon_int, isNon_tup, isNon_lst, isNon_str, isNon_bl, x_inT, x_inL, x_ninT, x_ninL, x_ix0, x_ix1, x_ix2, x_ixl0, x_ixl1, x_ixl2, x_ixl3, oB_int, x_oN, x_oS, slB_lst, slB_tup, x_mSl, lB_lst, x_mSlF, x_mRev, rvB_lst, rvB_tup, x_mRevB, x_mCatF, x_mRepF, x_mulL, x_mulB, x_mulBT, x_lenL, x_lenT, x_abs, x_int, x_intB, x_max2, x_min2, x_tupL, x_tupT, x_lstL, x_lstT, x_sum, x_sumT, x_any, x_all, sqB_lst, sqB_tup, x_mSeqB, r1B_, x_mR1, r2B_, x_mR2, x_mEnumL, zpB_l, zpB_t, x_mZip, x_mZipB, zpX_ll, zpX_tt, zpX_tl, zpX_lt, x_rg1, x_rg2, x_mLRg, x_mTRg, x_mLc, wipe1, wipe2, wipe3, x_tTrue, x_fnM, x_pick, x_eqZl, x_neZl, x_eqZt, x_neZt, List.isEmpty_nil, List.isEmpty_cons, deq_ii, x_ite, sizeLine_is, true_and, and_true, forall_const, implies_true, not_true_eq_false, not_false_eq_true, false_implies, true_implies, Bool.true_eq_false, Bool.false_eq_true, decide_eq_true_eq, decide_true, decide_false, Bool.not_true, Bool.not_false, Bool.not_eq_true', decide_eq_false_iff_not, Decidable.not_not, x_flatF, x_mLc2, flat_bl, flat_int, flat_non, x_mR3, r3B_, cast_0, cast_1, cast_2, cast_3, Int.reduceEq, Int.reduceLT, Int.reduceLE, isi_int_non, isi_int_bl, isi_int_int, isi_int_str, isi_int_tup, isi_int_lst, isi_bool_non, isi_bool_bl, isi_bool_int, isi_bool_str, isi_bool_tup, isi_bool_lst, isi_tuple_non, isi_tuple_bl, isi_tuple_int, isi_tuple_str, isi_tuple_tup, isi_tuple_lst, isi_list_non, isi_list_bl, isi_list_int, isi_list_str, isi_list_tup, isi_list_lst, isi_str_non, isi_str_bl, isi_str_int, isi_str_str, isi_str_tup, isi_str_lst, isi_int_dct, isi_bool_dct, isi_tuple_dct, isi_list_dct, isi_str_dct, isi_dict_dct, isNon_dct, isi_q, sqB_q, len_q, isNon_q, q_ix0, q_ix1, q_eq, q_ne, List.length_cons, List.length_nil, Nat.reduceAdd, Nat.reduceLeDiff, Nat.reduceSub, Nat.zero_add, List.set_cons_zero, List.set_cons_succ, List.map_cons, List.map_nil, List.replicate_succ, List.replicate_zero, List.cons_append, List.nil_append])
    exact z7 S hl hF
end
end LW

namespace LW
open PySem DL
theorem pl2 (x y : D) (hx : plD x = true) (hy : plD y = true) : PlT (.tup [x, y]) := ⟨rfl, fun xs e z hz => by
  cases e
  rcases List.mem_cons.mp hz with e | hz
  · rw [e]; exact hx
  · rw [List.mem_singleton.mp hz]; exact hy⟩
/-- what is no row: as one that has a part that is no span, or as one that falls -/
def Odd (d : D) : Prop := (plD d = true ∧ ∀ xs, d = .tup xs → xs.length ≤ 1000 ∧ (∀ x ∈ xs, PlT x) ∧ xs.all spPair = false) ∨ ∃ l : List (Int × Int), d = .tup (l.map fr) ∧ l.length ≤ 1000 ∧ (∀ x ∈ l, x.1 < x.2) ∧ adj l = false
theorem Odd.non {d : D} (h : plD d = true) (n : ∀ xs, d ≠ .tup xs) : Odd d := .inl ⟨h, fun xs e => absurd e (n xs)⟩
theorem Odd.one {d : D} (h : PlT d) (hs : spPair d = false) : Odd (.tup [d]) := .inl ⟨rfl, fun xs e => by
  cases e
  refine ⟨by simp, fun x hx => by rw [List.mem_singleton.mp hx]; exact h, ?_⟩
  rw [List.all_cons, hs]
  rfl⟩
theorem sp_odd {d : D} {Q : D → Prop} (h : Odd d) (q : Q (.bl false)) : f_is_span_row [d] Q := by
  rcases h with ⟨h1, h2⟩ | ⟨l, rfl, h1, h2, h3⟩
  · exact sp_row_no h1 h2 q
  · refine sp_row h1 h2 ?_
    rw [h3]
    exact q
def odds : List D := [.non, .int 7, .lst [.tup [.int 0, .int 1]], .tup [.tup [.int 0, .int 0]], .tup [.tup [.int 1, .int 0]], .tup [.tup [.int 0, .bl true]], .tup [.tup [.int 0]], .tup [.tup [.int 0, .int 1, .int 2]], .tup [.non], .tup [.str "01"], .tup [.tup [.int 1, .int 2], .tup [.int 0, .int 3]], .tup [.lst [.int 0, .int 1]]]
theorem odds_odd : ∀ d ∈ odds, Odd d := by
  intro d hd
  unfold odds at hd
  simp only [List.mem_cons, List.not_mem_nil, or_false] at hd
  rcases hd with rfl | rfl | rfl | rfl | rfl | rfl | rfl | rfl | rfl | rfl | rfl | rfl
  · exact .non rfl fun _ e => by cases e
  · exact .non rfl fun _ e => by cases e
  · exact .non rfl fun _ e => by cases e
  · exact .one (pl2 _ _ rfl rfl) (by decide)
  · exact .one (pl2 _ _ rfl rfl) (by decide)
  · exact .one (pl2 _ _ rfl rfl) rfl
  · exact .one ⟨rfl, fun xs e z hz => by cases e; rw [List.mem_singleton.mp hz]; rfl⟩ rfl
  · exact .one ⟨rfl, fun xs e z hz => by cases e; simp only [List.mem_cons, List.not_mem_nil, or_false] at hz; rcases hz with rfl | rfl | rfl <;> rfl⟩ rfl
  · exact .one ⟨rfl, fun xs e => by cases e⟩ rfl
  · exact .one ⟨rfl, fun xs e => by cases e⟩ rfl
  · exact .inr ⟨[(1, 2), (0, 3)], rfl, by decide, by decide, by decide⟩
  · exact .one ⟨rfl, fun xs e => by cases e⟩ rfl
theorem law_holds : Law 17 1 b_law := by
  unfold Law env0
  simp only [x_sSq, x_sNx, x_sBk, x_sCt, x_sRet, x_sRetN, x_sIf, x_sAsg, x_sOwn, x_sPar, x_sPar3, x_sPx, x_sPx3, x_sPx4, x_xD, x_xF, x_sDrop, x_sFor, atE0, atES, frz_own, frz_d, frz_u, x_sFrz, slV_d, slV_own, slD_d, slO_own, x_sApp, exB_lst, x_sExt, x_sStx, x_gV, x_gD, x_gN, x_gT, x_gC, x_gE, x_mC, x_mL, x_m1, x_m2, x_mT, bB_bl, iB_int, x_mChain, x_mAnd, x_mOr, x_mNot, x_mAndV, x_mOrV, x_mNotV, x_mIte, x_aN, x_aC, x_mTup, x_mLst, x_mCall, x_add, x_addT, x_addL, x_sub, x_mul, x_div, x_mod, x_pow, x_shl, x_neg, x_lt, x_le, x_gt, x_ge, x_ltB, x_leB, x_gtB, x_geB, x_eq, x_ne, x_eqT, x_neT, x_eqL, x_neL, x_eqS, x_neS, x_eqB, x_neB, x_is, x_isN, x_isB, x_isNB, isNon_non, isNon_int, isNon_tup, isNon_lst, isNon_str, isNon_bl, x_inT, x_inL, x_ninT, x_ninL, x_ix0, x_ix1, x_ix2, x_ixl0, x_ixl1, x_ixl2, x_ixl3, oB_int, x_oN, x_oS, slB_lst, slB_tup, x_mSl, lB_lst, x_mSlF, x_mRev, rvB_lst, rvB_tup, x_mRevB, x_mCatF, x_mRepF, x_mulL, x_mulB, x_mulBT, x_lenL, x_lenT, x_abs, x_int, x_intB, x_max2, x_min2, x_tupL, x_tupT, x_lstL, x_lstT, x_sum, x_sumT, x_any, x_all, sqB_lst, sqB_tup, x_mSeqB, r1B_, x_mR1, r2B_, x_mR2, x_mEnumL, zpB_l, zpB_t, x_mZip, x_mZipB, zpX_ll, zpX_tt, zpX_tl, zpX_lt, x_rg1, x_rg2, x_mLRg, x_mTRg, x_mLc, wipe1, wipe2, wipe3, x_tTrue, x_fnM, x_pick, x_eqZl, x_neZl, x_eqZt, x_neZt, List.isEmpty_nil, List.isEmpty_cons, deq_ii, x_ite, sizeLine_is, true_and, and_true, forall_const, implies_true, not_true_eq_false, not_false_eq_true, false_implies, true_implies, Bool.true_eq_false, Bool.false_eq_true, decide_eq_true_eq, decide_true, decide_false, Bool.not_true, Bool.not_false, Bool.not_eq_true', decide_eq_false_iff_not, Decidable.not_not, x_flatF, x_mLc2, flat_bl, flat_int, flat_non, x_mR3, r3B_, cast_0, cast_1, cast_2, cast_3, Int.reduceEq, Int.reduceLT, Int.reduceLE, isi_int_non, isi_int_bl, isi_int_int, isi_int_str, isi_int_tup, isi_int_lst, isi_bool_non, isi_bool_bl, isi_bool_int, isi_bool_str, isi_bool_tup, isi_bool_lst, isi_tuple_non, isi_tuple_bl, isi_tuple_int, isi_tuple_str, isi_tuple_tup, isi_tuple_lst, isi_list_non, isi_list_bl, isi_list_int, isi_list_str, isi_list_tup, isi_list_lst, isi_str_non, isi_str_bl, isi_str_int, isi_str_str, isi_str_tup, isi_str_lst, isi_int_dct, isi_bool_dct, isi_tuple_dct, isi_list_dct, isi_str_dct, isi_dict_dct, isNon_dct, isi_q, sqB_q, len_q, isNon_q, q_ix0, q_ix1, q_eq, q_ne, List.length_cons, List.length_nil, Nat.reduceAdd, Nat.reduceLeDiff, Nat.reduceSub, Nat.zero_add, List.set_cons_zero, List.set_cons_succ, List.map_cons, List.map_nil, List.replicate_succ, List.replicate_zero, List.cons_append, List.nil_append, b_law]
  refine ⟨⟨by omega, by omega⟩, ?_⟩
  refine for_inv (fun _ en => Ok en) _ 0 ⟨_, _, _, _, _, _, _, _, _, _, _, _, _, _, _, rfl⟩ (fun i x en hx hI N hN => ?_) fun en hI => ?_
  · obtain ⟨hi, rfl⟩ := rng_get hx
    obtain ⟨a2, a3, a4, a5, a6, a7, a8, a9, a10, a11, a12, a13, a14, a15, a16, rfl⟩ := hI
    simp only [x_sSq, x_sNx, x_sBk, x_sCt, x_sRet, x_sRetN, x_sIf, x_sAsg, x_sOwn, x_sPar, x_sPar3, x_sPx, x_sPx3, x_sPx4, x_xD, x_xF, x_sDrop, x_sFor, atE0, atES, frz_own, frz_d, frz_u, x_sFrz, slV_d, slV_own, slD_d, slO_own, x_sApp, exB_lst, x_sExt, x_sStx, x_gV, x_gD, x_gN, x_gT, x_gC, x_gE, x_mC, x_mL, x_m1, x_m2, x_mT, bB_bl, iB_int, x_mChain, x_mAnd, x_mOr, x_mNot, x_mAndV, x_mOrV, x_mNotV, x_mIte, x_aN, x_aC, x_mTup, x_mLst, x_mCall, x_add, x_addT, x_addL, x_sub, x_mul, x_div, x_mod, x_pow, x_shl, x_neg, x_lt, x_le, x_gt, x_ge, x_ltB, x_leB, x_gtB, x_geB, x_eq, x_ne, x_eqT, x_neT, x_eqL, x_neL, x_eqS, x_neS, x_eqB, x_neB, x_is, x_isN, x_isB, x_isNB, isNon_non, isNon_int, isNon_tup, isNon_lst, isNon_str, isNon_bl, x_inT, x_inL, x_ninT, x_ninL, x_ix0, x_ix1, x_ix2, x_ixl0, x_ixl1, x_ixl2, x_ixl3, oB_int, x_oN, x_oS, slB_lst, slB_tup, x_mSl, lB_lst, x_mSlF, x_mRev, rvB_lst, rvB_tup, x_mRevB, x_mCatF, x_mRepF, x_mulL, x_mulB, x_mulBT, x_lenL, x_lenT, x_abs, x_int, x_intB, x_max2, x_min2, x_tupL, x_tupT, x_lstL, x_lstT, x_sum, x_sumT, x_any, x_all, sqB_lst, sqB_tup, x_mSeqB, r1B_, x_mR1, r2B_, x_mR2, x_mEnumL, zpB_l, zpB_t, x_mZip, x_mZipB, zpX_ll, zpX_tt, zpX_tl, zpX_lt, x_rg1, x_rg2, x_mLRg, x_mTRg, x_mLc, wipe1, wipe2, wipe3, x_tTrue, x_fnM, x_pick, x_eqZl, x_neZl, x_eqZt, x_neZt, List.isEmpty_nil, List.isEmpty_cons, deq_ii, x_ite, sizeLine_is, true_and, and_true, forall_const, implies_true, not_true_eq_false, not_false_eq_true, false_implies, true_implies, Bool.true_eq_false, Bool.false_eq_true, decide_eq_true_eq, decide_true, decide_false, Bool.not_true, Bool.not_false, Bool.not_eq_true', decide_eq_false_iff_not, Decidable.not_not, x_flatF, x_mLc2, flat_bl, flat_int, flat_non, x_mR3, r3B_, cast_0, cast_1, cast_2, cast_3, Int.reduceEq, Int.reduceLT, Int.reduceLE, isi_int_non, isi_int_bl, isi_int_int, isi_int_str, isi_int_tup, isi_int_lst, isi_bool_non, isi_bool_bl, isi_bool_int, isi_bool_str, isi_bool_tup, isi_bool_lst, isi_tuple_non, isi_tuple_bl, isi_tuple_int, isi_tuple_str, isi_tuple_tup, isi_tuple_lst, isi_list_non, isi_list_bl, isi_list_int, isi_list_str, isi_list_tup, isi_list_lst, isi_str_non, isi_str_bl, isi_str_int, isi_str_str, isi_str_tup, isi_str_lst, isi_int_dct, isi_bool_dct, isi_tuple_dct, isi_list_dct, isi_str_dct, isi_dict_dct, isNon_dct, isi_q, sqB_q, len_q, isNon_q, q_ix0, q_ix1, q_eq, q_ne, List.length_cons, List.length_nil, Nat.reduceAdd, Nat.reduceLeDiff, Nat.reduceSub, Nat.zero_add, List.set_cons_zero, List.set_cons_succ, List.map_cons, List.map_nil, List.replicate_succ, List.replicate_zero, List.cons_append, List.nil_append, b_law_12, Int.zero_add]
    refine ixAny hi fun d hd => ixAny hi fun e he => ?_
    obtain ⟨far, rfl, hfar⟩ : ∃ m : Nat, d = .int (m : Int) ∧ m ≤ 100 := by
      simp only [List.mem_cons, List.not_mem_nil, or_false] at hd
      rcases hd with rfl | rfl | rfl
      · exact ⟨4, rfl, by decide⟩
      · exact ⟨12, rfl, by decide⟩
      · exact ⟨30, rfl, by decide⟩
    obtain ⟨most, rfl, hmost⟩ : ∃ m : Nat, e = .int (m : Int) ∧ m ≤ 100 := by
      simp only [List.mem_cons, List.not_mem_nil, or_false] at he
      rcases he with rfl | rfl | rfl
      · exact ⟨3, rfl, by decide⟩
      · exact ⟨6, rfl, by decide⟩
      · exact ⟨9, rfl, by decide⟩
    refine sp_draw (many := 12) (by decide) hfar hmost fun sp S hl => ?_
    (try simp only [x_sSq, x_sNx, x_sBk, x_sCt, x_sRet, x_sRetN, x_sIf, x_sAsg, x_sOwn, x_sPar, x_sPar3, x_sPx, x_sPx3, x_sPx4, x_xD, x_xF, x_sDrop, x_sFor, atE0, atES, frz_own, frz_d, frz_u, x_sFrz, slV_d, slV_own, slD_d, slO_own, x_sApp, exB_lst, x_sExt, x_sStx, x_gV, x_gD, x_gN, x_gT, x_gC, x_gE, x_mC, x_mL, x_m1, x_m2, x_mT, bB_bl, iB_int, x_mChain, x_mAnd, x_mOr, x_mNot, x_mAndV, x_mOrV, x_mNotV, x_mIte, x_aN, x_aC, x_mTup, x_mLst, x_mCall, x_add, x_addT, x_addL, x_sub, x_mul, x_div, x_mod, x_pow, x_shl, x_neg, x_lt, x_le, x_gt, x_ge, x_ltB, x_leB, x_gtB, x_geB, x_eq, x_ne, x_eqT, x_neT, x_eqL, x_neL, x_eqS, x_neS, x_eqB, x_neB, x_is, x_isN, x_isB, x_isNB, isNon_non, isNon_int, isNon_tup, isNon_lst, isNon_str, isNon_bl, x_inT, x_inL, x_ninT, x_ninL, x_ix0, x_ix1, x_ix2, x_ixl0, x_ixl1, x_ixl2, x_ixl3, oB_int, x_oN, x_oS, slB_lst, slB_tup, x_mSl, lB_lst, x_mSlF, x_mRev, rvB_lst, rvB_tup, x_mRevB, x_mCatF, x_mRepF, x_mulL, x_mulB, x_mulBT, x_lenL, x_lenT, x_abs, x_int, x_intB, x_max2, x_min2, x_tupL, x_tupT, x_lstL, x_lstT, x_sum, x_sumT, x_any, x_all, sqB_lst, sqB_tup, x_mSeqB, r1B_, x_mR1, r2B_, x_mR2, x_mEnumL, zpB_l, zpB_t, x_mZip, x_mZipB, zpX_ll, zpX_tt, zpX_tl, zpX_lt, x_rg1, x_rg2, x_mLRg, x_mTRg, x_mLc, wipe1, wipe2, wipe3, x_tTrue, x_fnM, x_pick, x_eqZl, x_neZl, x_eqZt, x_neZt, List.isEmpty_nil, List.isEmpty_cons, deq_ii, x_ite, sizeLine_is, true_and, and_true, forall_const, implies_true, not_true_eq_false, not_false_eq_true, false_implies, true_implies, Bool.true_eq_false, Bool.false_eq_true, decide_eq_true_eq, decide_true, decide_false, Bool.not_true, Bool.not_false, Bool.not_eq_true', decide_eq_false_iff_not, Decidable.not_not, x_flatF, x_mLc2, flat_bl, flat_int, flat_non, x_mR3, r3B_, cast_0, cast_1, cast_2, cast_3, Int.reduceEq, Int.reduceLT, Int.reduceLE, isi_int_non, isi_int_bl, isi_int_int, isi_int_str, isi_int_tup, isi_int_lst, isi_bool_non, isi_bool_bl, isi_bool_int, isi_bool_str, isi_bool_tup, isi_bool_lst, isi_tuple_non, isi_tuple_bl, isi_tuple_int, isi_tuple_str, isi_tuple_tup, isi_tuple_lst, isi_list_non, isi_list_bl, isi_list_int, isi_list_str, isi_list_tup, isi_list_lst, isi_str_non, isi_str_bl, isi_str_int, isi_str_str, isi_str_tup, isi_str_lst, isi_int_dct, isi_bool_dct, isi_tuple_dct, isi_list_dct, isi_str_dct, isi_dict_dct, isNon_dct, isi_q, sqB_q, len_q, isNon_q, q_ix0, q_ix1, q_eq, q_ne, List.length_cons, List.length_nil, Nat.reduceAdd, Nat.reduceLeDiff, Nat.reduceSub, Nat.zero_add, List.set_cons_zero, List.set_cons_succ, List.map_cons, List.map_nil, List.replicate_succ, List.replicate_zero, List.cons_append, List.nil_append])
    exact z12 S hl hN
  · obtain ⟨a2, a3, a4, a5, a6, a7, a8, a9, a10, a11, a12, a13, a14, a15, a16, rfl⟩ := hI
    (try simp only [x_sSq, x_sNx, x_sBk, x_sCt, x_sRet, x_sRetN, x_sIf, x_sAsg, x_sOwn, x_sPar, x_sPar3, x_sPx, x_sPx3, x_sPx4, x_xD, x_xF, x_sDrop, x_sFor, atE0, atES, frz_own, frz_d, frz_u, x_sFrz, slV_d, slV_own, slD_d, slO_own, x_sApp, exB_lst, x_sExt, x_sStx, x_gV, x_gD, x_gN, x_gT, x_gC, x_gE, x_mC, x_mL, x_m1, x_m2, x_mT, bB_bl, iB_int, x_mChain, x_mAnd, x_mOr, x_mNot, x_mAndV, x_mOrV, x_mNotV, x_mIte, x_aN, x_aC, x_mTup, x_mLst, x_mCall, x_add, x_addT, x_addL, x_sub, x_mul, x_div, x_mod, x_pow, x_shl, x_neg, x_lt, x_le, x_gt, x_ge, x_ltB, x_leB, x_gtB, x_geB, x_eq, x_ne, x_eqT, x_neT, x_eqL, x_neL, x_eqS, x_neS, x_eqB, x_neB, x_is, x_isN, x_isB, x_isNB, isNon_non, isNon_int, isNon_tup, isNon_lst, isNon_str, isNon_bl, x_inT, x_inL, x_ninT, x_ninL, x_ix0, x_ix1, x_ix2, x_ixl0, x_ixl1, x_ixl2, x_ixl3, oB_int, x_oN, x_oS, slB_lst, slB_tup, x_mSl, lB_lst, x_mSlF, x_mRev, rvB_lst, rvB_tup, x_mRevB, x_mCatF, x_mRepF, x_mulL, x_mulB, x_mulBT, x_lenL, x_lenT, x_abs, x_int, x_intB, x_max2, x_min2, x_tupL, x_tupT, x_lstL, x_lstT, x_sum, x_sumT, x_any, x_all, sqB_lst, sqB_tup, x_mSeqB, r1B_, x_mR1, r2B_, x_mR2, x_mEnumL, zpB_l, zpB_t, x_mZip, x_mZipB, zpX_ll, zpX_tt, zpX_tl, zpX_lt, x_rg1, x_rg2, x_mLRg, x_mTRg, x_mLc, wipe1, wipe2, wipe3, x_tTrue, x_fnM, x_pick, x_eqZl, x_neZl, x_eqZt, x_neZt, List.isEmpty_nil, List.isEmpty_cons, deq_ii, x_ite, sizeLine_is, true_and, and_true, forall_const, implies_true, not_true_eq_false, not_false_eq_true, false_implies, true_implies, Bool.true_eq_false, Bool.false_eq_true, decide_eq_true_eq, decide_true, decide_false, Bool.not_true, Bool.not_false, Bool.not_eq_true', decide_eq_false_iff_not, Decidable.not_not, x_flatF, x_mLc2, flat_bl, flat_int, flat_non, x_mR3, r3B_, cast_0, cast_1, cast_2, cast_3, Int.reduceEq, Int.reduceLT, Int.reduceLE, isi_int_non, isi_int_bl, isi_int_int, isi_int_str, isi_int_tup, isi_int_lst, isi_bool_non, isi_bool_bl, isi_bool_int, isi_bool_str, isi_bool_tup, isi_bool_lst, isi_tuple_non, isi_tuple_bl, isi_tuple_int, isi_tuple_str, isi_tuple_tup, isi_tuple_lst, isi_list_non, isi_list_bl, isi_list_int, isi_list_str, isi_list_tup, isi_list_lst, isi_str_non, isi_str_bl, isi_str_int, isi_str_str, isi_str_tup, isi_str_lst, isi_int_dct, isi_bool_dct, isi_tuple_dct, isi_list_dct, isi_str_dct, isi_dict_dct, isNon_dct, isi_q, sqB_q, len_q, isNon_q, q_ix0, q_ix1, q_eq, q_ne, List.length_cons, List.length_nil, Nat.reduceAdd, Nat.reduceLeDiff, Nat.reduceSub, Nat.zero_add, List.set_cons_zero, List.set_cons_succ, List.map_cons, List.map_nil, List.replicate_succ, List.replicate_zero, List.cons_append, List.nil_append])
    simp only [x_sSq, x_sNx, x_sBk, x_sCt, x_sRet, x_sRetN, x_sIf, x_sAsg, x_sOwn, x_sPar, x_sPar3, x_sPx, x_sPx3, x_sPx4, x_xD, x_xF, x_sDrop, x_sFor, atE0, atES, frz_own, frz_d, frz_u, x_sFrz, slV_d, slV_own, slD_d, slO_own, x_sApp, exB_lst, x_sExt, x_sStx, x_gV, x_gD, x_gN, x_gT, x_gC, x_gE, x_mC, x_mL, x_m1, x_m2, x_mT, bB_bl, iB_int, x_mChain, x_mAnd, x_mOr, x_mNot, x_mAndV, x_mOrV, x_mNotV, x_mIte, x_aN, x_aC, x_mTup, x_mLst, x_mCall, x_add, x_addT, x_addL, x_sub, x_mul, x_div, x_mod, x_pow, x_shl, x_neg, x_lt, x_le, x_gt, x_ge, x_ltB, x_leB, x_gtB, x_geB, x_eq, x_ne, x_eqT, x_neT, x_eqL, x_neL, x_eqS, x_neS, x_eqB, x_neB, x_is, x_isN, x_isB, x_isNB, isNon_non, isNon_int, isNon_tup, isNon_lst, isNon_str, isNon_bl, x_inT, x_inL, x_ninT, x_ninL, x_ix0, x_ix1, x_ix2, x_ixl0, x_ixl1, x_ixl2, x_ixl3, oB_int, x_oN, x_oS, slB_lst, slB_tup, x_mSl, lB_lst, x_mSlF, x_mRev, rvB_lst, rvB_tup, x_mRevB, x_mCatF, x_mRepF, x_mulL, x_mulB, x_mulBT, x_lenL, x_lenT, x_abs, x_int, x_intB, x_max2, x_min2, x_tupL, x_tupT, x_lstL, x_lstT, x_sum, x_sumT, x_any, x_all, sqB_lst, sqB_tup, x_mSeqB, r1B_, x_mR1, r2B_, x_mR2, x_mEnumL, zpB_l, zpB_t, x_mZip, x_mZipB, zpX_ll, zpX_tt, zpX_tl, zpX_lt, x_rg1, x_rg2, x_mLRg, x_mTRg, x_mLc, wipe1, wipe2, wipe3, x_tTrue, x_fnM, x_pick, x_eqZl, x_neZl, x_eqZt, x_neZt, List.isEmpty_nil, List.isEmpty_cons, deq_ii, x_ite, sizeLine_is, true_and, and_true, forall_const, implies_true, not_true_eq_false, not_false_eq_true, false_implies, true_implies, Bool.true_eq_false, Bool.false_eq_true, decide_eq_true_eq, decide_true, decide_false, Bool.not_true, Bool.not_false, Bool.not_eq_true', decide_eq_false_iff_not, Decidable.not_not, x_flatF, x_mLc2, flat_bl, flat_int, flat_non, x_mR3, r3B_, cast_0, cast_1, cast_2, cast_3, Int.reduceEq, Int.reduceLT, Int.reduceLE, isi_int_non, isi_int_bl, isi_int_int, isi_int_str, isi_int_tup, isi_int_lst, isi_bool_non, isi_bool_bl, isi_bool_int, isi_bool_str, isi_bool_tup, isi_bool_lst, isi_tuple_non, isi_tuple_bl, isi_tuple_int, isi_tuple_str, isi_tuple_tup, isi_tuple_lst, isi_list_non, isi_list_bl, isi_list_int, isi_list_str, isi_list_tup, isi_list_lst, isi_str_non, isi_str_bl, isi_str_int, isi_str_str, isi_str_tup, isi_str_lst, isi_int_dct, isi_bool_dct, isi_tuple_dct, isi_list_dct, isi_str_dct, isi_dict_dct, isNon_dct, isi_q, sqB_q, len_q, isNon_q, q_ix0, q_ix1, q_eq, q_ne, List.length_cons, List.length_nil, Nat.reduceAdd, Nat.reduceLeDiff, Nat.reduceSub, Nat.zero_add, List.set_cons_zero, List.set_cons_succ, List.map_cons, List.map_nil, List.replicate_succ, List.replicate_zero, List.cons_append, List.nil_append, b_law_14]
    simp only [x_sSq, x_sNx, x_sBk, x_sCt, x_sRet, x_sRetN, x_sIf, x_sAsg, x_sOwn, x_sPar, x_sPar3, x_sPx, x_sPx3, x_sPx4, x_xD, x_xF, x_sDrop, x_sFor, atE0, atES, frz_own, frz_d, frz_u, x_sFrz, slV_d, slV_own, slD_d, slO_own, x_sApp, exB_lst, x_sExt, x_sStx, x_gV, x_gD, x_gN, x_gT, x_gC, x_gE, x_mC, x_mL, x_m1, x_m2, x_mT, bB_bl, iB_int, x_mChain, x_mAnd, x_mOr, x_mNot, x_mAndV, x_mOrV, x_mNotV, x_mIte, x_aN, x_aC, x_mTup, x_mLst, x_mCall, x_add, x_addT, x_addL, x_sub, x_mul, x_div, x_mod, x_pow, x_shl, x_neg, x_lt, x_le, x_gt, x_ge, x_ltB, x_leB, x_gtB, x_geB, x_eq, x_ne, x_eqT, x_neT, x_eqL, x_neL, x_eqS, x_neS, x_eqB, x_neB, x_is, x_isN, x_isB, x_isNB, isNon_non, isNon_int, isNon_tup, isNon_lst, isNon_str, isNon_bl, x_inT, x_inL, x_ninT, x_ninL, x_ix0, x_ix1, x_ix2, x_ixl0, x_ixl1, x_ixl2, x_ixl3, oB_int, x_oN, x_oS, slB_lst, slB_tup, x_mSl, lB_lst, x_mSlF, x_mRev, rvB_lst, rvB_tup, x_mRevB, x_mCatF, x_mRepF, x_mulL, x_mulB, x_mulBT, x_lenL, x_lenT, x_abs, x_int, x_intB, x_max2, x_min2, x_tupL, x_tupT, x_lstL, x_lstT, x_sum, x_sumT, x_any, x_all, sqB_lst, sqB_tup, x_mSeqB, r1B_, x_mR1, r2B_, x_mR2, x_mEnumL, zpB_l, zpB_t, x_mZip, x_mZipB, zpX_ll, zpX_tt, zpX_tl, zpX_lt, x_rg1, x_rg2, x_mLRg, x_mTRg, x_mLc, wipe1, wipe2, wipe3, x_tTrue, x_fnM, x_pick, x_eqZl, x_neZl, x_eqZt, x_neZt, List.isEmpty_nil, List.isEmpty_cons, deq_ii, x_ite, sizeLine_is, true_and, and_true, forall_const, implies_true, not_true_eq_false, not_false_eq_true, false_implies, true_implies, Bool.true_eq_false, Bool.false_eq_true, decide_eq_true_eq, decide_true, decide_false, Bool.not_true, Bool.not_false, Bool.not_eq_true', decide_eq_false_iff_not, Decidable.not_not, x_flatF, x_mLc2, flat_bl, flat_int, flat_non, x_mR3, r3B_, cast_0, cast_1, cast_2, cast_3, Int.reduceEq, Int.reduceLT, Int.reduceLE, isi_int_non, isi_int_bl, isi_int_int, isi_int_str, isi_int_tup, isi_int_lst, isi_bool_non, isi_bool_bl, isi_bool_int, isi_bool_str, isi_bool_tup, isi_bool_lst, isi_tuple_non, isi_tuple_bl, isi_tuple_int, isi_tuple_str, isi_tuple_tup, isi_tuple_lst, isi_list_non, isi_list_bl, isi_list_int, isi_list_str, isi_list_tup, isi_list_lst, isi_str_non, isi_str_bl, isi_str_int, isi_str_str, isi_str_tup, isi_str_lst, isi_int_dct, isi_bool_dct, isi_tuple_dct, isi_list_dct, isi_str_dct, isi_dict_dct, isNon_dct, isi_q, sqB_q, len_q, isNon_q, q_ix0, q_ix1, q_eq, q_ne, List.length_cons, List.length_nil, Nat.reduceAdd, Nat.reduceLeDiff, Nat.reduceSub, Nat.zero_add, List.set_cons_zero, List.set_cons_succ, List.map_cons, List.map_nil, List.replicate_succ, List.replicate_zero, List.cons_append, List.nil_append, b_law_13]
    refine lc_mapE (l := odds) (fun d => d) (fun _ => .bl false) (fun d hd Qy Qn hy => ?_) ?_
    · (try simp only [x_sSq, x_sNx, x_sBk, x_sCt, x_sRet, x_sRetN, x_sIf, x_sAsg, x_sOwn, x_sPar, x_sPar3, x_sPx, x_sPx3, x_sPx4, x_xD, x_xF, x_sDrop, x_sFor, atE0, atES, frz_own, frz_d, frz_u, x_sFrz, slV_d, slV_own, slD_d, slO_own, x_sApp, exB_lst, x_sExt, x_sStx, x_gV, x_gD, x_gN, x_gT, x_gC, x_gE, x_mC, x_mL, x_m1, x_m2, x_mT, bB_bl, iB_int, x_mChain, x_mAnd, x_mOr, x_mNot, x_mAndV, x_mOrV, x_mNotV, x_mIte, x_aN, x_aC, x_mTup, x_mLst, x_mCall, x_add, x_addT, x_addL, x_sub, x_mul, x_div, x_mod, x_pow, x_shl, x_neg, x_lt, x_le, x_gt, x_ge, x_ltB, x_leB, x_gtB, x_geB, x_eq, x_ne, x_eqT, x_neT, x_eqL, x_neL, x_eqS, x_neS, x_eqB, x_neB, x_is, x_isN, x_isB, x_isNB, isNon_non, isNon_int, isNon_tup, isNon_lst, isNon_str, isNon_bl, x_inT, x_inL, x_ninT, x_ninL, x_ix0, x_ix1, x_ix2, x_ixl0, x_ixl1, x_ixl2, x_ixl3, oB_int, x_oN, x_oS, slB_lst, slB_tup, x_mSl, lB_lst, x_mSlF, x_mRev, rvB_lst, rvB_tup, x_mRevB, x_mCatF, x_mRepF, x_mulL, x_mulB, x_mulBT, x_lenL, x_lenT, x_abs, x_int, x_intB, x_max2, x_min2, x_tupL, x_tupT, x_lstL, x_lstT, x_sum, x_sumT, x_any, x_all, sqB_lst, sqB_tup, x_mSeqB, r1B_, x_mR1, r2B_, x_mR2, x_mEnumL, zpB_l, zpB_t, x_mZip, x_mZipB, zpX_ll, zpX_tt, zpX_tl, zpX_lt, x_rg1, x_rg2, x_mLRg, x_mTRg, x_mLc, wipe1, wipe2, wipe3, x_tTrue, x_fnM, x_pick, x_eqZl, x_neZl, x_eqZt, x_neZt, List.isEmpty_nil, List.isEmpty_cons, deq_ii, x_ite, sizeLine_is, true_and, and_true, forall_const, implies_true, not_true_eq_false, not_false_eq_true, false_implies, true_implies, Bool.true_eq_false, Bool.false_eq_true, decide_eq_true_eq, decide_true, decide_false, Bool.not_true, Bool.not_false, Bool.not_eq_true', decide_eq_false_iff_not, Decidable.not_not, x_flatF, x_mLc2, flat_bl, flat_int, flat_non, x_mR3, r3B_, cast_0, cast_1, cast_2, cast_3, Int.reduceEq, Int.reduceLT, Int.reduceLE, isi_int_non, isi_int_bl, isi_int_int, isi_int_str, isi_int_tup, isi_int_lst, isi_bool_non, isi_bool_bl, isi_bool_int, isi_bool_str, isi_bool_tup, isi_bool_lst, isi_tuple_non, isi_tuple_bl, isi_tuple_int, isi_tuple_str, isi_tuple_tup, isi_tuple_lst, isi_list_non, isi_list_bl, isi_list_int, isi_list_str, isi_list_tup, isi_list_lst, isi_str_non, isi_str_bl, isi_str_int, isi_str_str, isi_str_tup, isi_str_lst, isi_int_dct, isi_bool_dct, isi_tuple_dct, isi_list_dct, isi_str_dct, isi_dict_dct, isNon_dct, isi_q, sqB_q, len_q, isNon_q, q_ix0, q_ix1, q_eq, q_ne, List.length_cons, List.length_nil, Nat.reduceAdd, Nat.reduceLeDiff, Nat.reduceSub, Nat.zero_add, List.set_cons_zero, List.set_cons_succ, List.map_cons, List.map_nil, List.replicate_succ, List.replicate_zero, List.cons_append, List.nil_append])
      exact sp_odd (odds_odd d hd) hy
    · have e : odds.map (fun _ => D.bl false) = (odds.map fun _ => false).map .bl := by rw [List.map_map]; rfl
      have e2 : (odds.map fun _ => false).any id = false := by decide
      rw [e, x_any, e2]
      (try simp only [x_sSq, x_sNx, x_sBk, x_sCt, x_sRet, x_sRetN, x_sIf, x_sAsg, x_sOwn, x_sPar, x_sPar3, x_sPx, x_sPx3, x_sPx4, x_xD, x_xF, x_sDrop, x_sFor, atE0, atES, frz_own, frz_d, frz_u, x_sFrz, slV_d, slV_own, slD_d, slO_own, x_sApp, exB_lst, x_sExt, x_sStx, x_gV, x_gD, x_gN, x_gT, x_gC, x_gE, x_mC, x_mL, x_m1, x_m2, x_mT, bB_bl, iB_int, x_mChain, x_mAnd, x_mOr, x_mNot, x_mAndV, x_mOrV, x_mNotV, x_mIte, x_aN, x_aC, x_mTup, x_mLst, x_mCall, x_add, x_addT, x_addL, x_sub, x_mul, x_div, x_mod, x_pow, x_shl, x_neg, x_lt, x_le, x_gt, x_ge, x_ltB, x_leB, x_gtB, x_geB, x_eq, x_ne, x_eqT, x_neT, x_eqL, x_neL, x_eqS, x_neS, x_eqB, x_neB, x_is, x_isN, x_isB, x_isNB, isNon_non, isNon_int, isNon_tup, isNon_lst, isNon_str, isNon_bl, x_inT, x_inL, x_ninT, x_ninL, x_ix0, x_ix1, x_ix2, x_ixl0, x_ixl1, x_ixl2, x_ixl3, oB_int, x_oN, x_oS, slB_lst, slB_tup, x_mSl, lB_lst, x_mSlF, x_mRev, rvB_lst, rvB_tup, x_mRevB, x_mCatF, x_mRepF, x_mulL, x_mulB, x_mulBT, x_lenL, x_lenT, x_abs, x_int, x_intB, x_max2, x_min2, x_tupL, x_tupT, x_lstL, x_lstT, x_sum, x_sumT, x_any, x_all, sqB_lst, sqB_tup, x_mSeqB, r1B_, x_mR1, r2B_, x_mR2, x_mEnumL, zpB_l, zpB_t, x_mZip, x_mZipB, zpX_ll, zpX_tt, zpX_tl, zpX_lt, x_rg1, x_rg2, x_mLRg, x_mTRg, x_mLc, wipe1, wipe2, wipe3, x_tTrue, x_fnM, x_pick, x_eqZl, x_neZl, x_eqZt, x_neZt, List.isEmpty_nil, List.isEmpty_cons, deq_ii, x_ite, sizeLine_is, true_and, and_true, forall_const, implies_true, not_true_eq_false, not_false_eq_true, false_implies, true_implies, Bool.true_eq_false, Bool.false_eq_true, decide_eq_true_eq, decide_true, decide_false, Bool.not_true, Bool.not_false, Bool.not_eq_true', decide_eq_false_iff_not, Decidable.not_not, x_flatF, x_mLc2, flat_bl, flat_int, flat_non, x_mR3, r3B_, cast_0, cast_1, cast_2, cast_3, Int.reduceEq, Int.reduceLT, Int.reduceLE, isi_int_non, isi_int_bl, isi_int_int, isi_int_str, isi_int_tup, isi_int_lst, isi_bool_non, isi_bool_bl, isi_bool_int, isi_bool_str, isi_bool_tup, isi_bool_lst, isi_tuple_non, isi_tuple_bl, isi_tuple_int, isi_tuple_str, isi_tuple_tup, isi_tuple_lst, isi_list_non, isi_list_bl, isi_list_int, isi_list_str, isi_list_tup, isi_list_lst, isi_str_non, isi_str_bl, isi_str_int, isi_str_str, isi_str_tup, isi_str_lst, isi_int_dct, isi_bool_dct, isi_tuple_dct, isi_list_dct, isi_str_dct, isi_dict_dct, isNon_dct, isi_q, sqB_q, len_q, isNon_q, q_ix0, q_ix1, q_eq, q_ne, List.length_cons, List.length_nil, Nat.reduceAdd, Nat.reduceLeDiff, Nat.reduceSub, Nat.zero_add, List.set_cons_zero, List.set_cons_succ, List.map_cons, List.map_nil, List.replicate_succ, List.replicate_zero, List.cons_append, List.nil_append])
      refine sp_row (l := []) (by decide) (fun x hx => (List.not_mem_nil hx).elim) ?_
      (try simp only [x_sSq, x_sNx, x_sBk, x_sCt, x_sRet, x_sRetN, x_sIf, x_sAsg, x_sOwn, x_sPar, x_sPar3, x_sPx, x_sPx3, x_sPx4, x_xD, x_xF, x_sDrop, x_sFor, atE0, atES, frz_own, frz_d, frz_u, x_sFrz, slV_d, slV_own, slD_d, slO_own, x_sApp, exB_lst, x_sExt, x_sStx, x_gV, x_gD, x_gN, x_gT, x_gC, x_gE, x_mC, x_mL, x_m1, x_m2, x_mT, bB_bl, iB_int, x_mChain, x_mAnd, x_mOr, x_mNot, x_mAndV, x_mOrV, x_mNotV, x_mIte, x_aN, x_aC, x_mTup, x_mLst, x_mCall, x_add, x_addT, x_addL, x_sub, x_mul, x_div, x_mod, x_pow, x_shl, x_neg, x_lt, x_le, x_gt, x_ge, x_ltB, x_leB, x_gtB, x_geB, x_eq, x_ne, x_eqT, x_neT, x_eqL, x_neL, x_eqS, x_neS, x_eqB, x_neB, x_is, x_isN, x_isB, x_isNB, isNon_non, isNon_int, isNon_tup, isNon_lst, isNon_str, isNon_bl, x_inT, x_inL, x_ninT, x_ninL, x_ix0, x_ix1, x_ix2, x_ixl0, x_ixl1, x_ixl2, x_ixl3, oB_int, x_oN, x_oS, slB_lst, slB_tup, x_mSl, lB_lst, x_mSlF, x_mRev, rvB_lst, rvB_tup, x_mRevB, x_mCatF, x_mRepF, x_mulL, x_mulB, x_mulBT, x_lenL, x_lenT, x_abs, x_int, x_intB, x_max2, x_min2, x_tupL, x_tupT, x_lstL, x_lstT, x_sum, x_sumT, x_any, x_all, sqB_lst, sqB_tup, x_mSeqB, r1B_, x_mR1, r2B_, x_mR2, x_mEnumL, zpB_l, zpB_t, x_mZip, x_mZipB, zpX_ll, zpX_tt, zpX_tl, zpX_lt, x_rg1, x_rg2, x_mLRg, x_mTRg, x_mLc, wipe1, wipe2, wipe3, x_tTrue, x_fnM, x_pick, x_eqZl, x_neZl, x_eqZt, x_neZt, List.isEmpty_nil, List.isEmpty_cons, deq_ii, x_ite, sizeLine_is, true_and, and_true, forall_const, implies_true, not_true_eq_false, not_false_eq_true, false_implies, true_implies, Bool.true_eq_false, Bool.false_eq_true, decide_eq_true_eq, decide_true, decide_false, Bool.not_true, Bool.not_false, Bool.not_eq_true', decide_eq_false_iff_not, Decidable.not_not, x_flatF, x_mLc2, flat_bl, flat_int, flat_non, x_mR3, r3B_, cast_0, cast_1, cast_2, cast_3, Int.reduceEq, Int.reduceLT, Int.reduceLE, isi_int_non, isi_int_bl, isi_int_int, isi_int_str, isi_int_tup, isi_int_lst, isi_bool_non, isi_bool_bl, isi_bool_int, isi_bool_str, isi_bool_tup, isi_bool_lst, isi_tuple_non, isi_tuple_bl, isi_tuple_int, isi_tuple_str, isi_tuple_tup, isi_tuple_lst, isi_list_non, isi_list_bl, isi_list_int, isi_list_str, isi_list_tup, isi_list_lst, isi_str_non, isi_str_bl, isi_str_int, isi_str_str, isi_str_tup, isi_str_lst, isi_int_dct, isi_bool_dct, isi_tuple_dct, isi_list_dct, isi_str_dct, isi_dict_dct, isNon_dct, isi_q, sqB_q, len_q, isNon_q, q_ix0, q_ix1, q_eq, q_ne, List.length_cons, List.length_nil, Nat.reduceAdd, Nat.reduceLeDiff, Nat.reduceSub, Nat.zero_add, List.set_cons_zero, List.set_cons_succ, List.map_cons, List.map_nil, List.replicate_succ, List.replicate_zero, List.cons_append, List.nil_append])
      rfl
end LW


set_option Elab.async false
set_option linter.all false
set_option maxRecDepth 100000
set_option maxHeartbeats 0
open PySem PySem.W PyProof.Rows
set_option maxHeartbeats 0 in
theorem PySem.Challenge.cw_beforeitcomes_k56_whole_rooms_as_spans_c_holds : PySem.Challenge.rw_beforeitcomes_k56_whole_rooms_as_spans_c.Holds := by
  w_on; o_law; k_head; (case hw => w_witness2)
  k_fill
  refine DL.walkG (l := PySem.Challenge.rw_beforeitcomes_k56_whole_rooms_as_spans_c) (n := 63) (k := 3) (x := "script") rfl (by decide) rfl ⟨rfl, by decide, by decide⟩ (fun w h Y => PySem.W.kIn_of Y) ?F
  case F =>
    intro w mg fa h KX G hmg
    refine' LW.all_mk KX G hmg ?a0 ?l0 ?c0 ?k0 ?a1 ?l1 ?c1 ?k1 ?a2 ?l2 ?c2 ?k2 ?a3 ?l3 ?c3 ?k3 ?a4 ?l4 ?c4 ?k4 ?a5 ?l5 ?c5 ?k5 ?a6 ?l6 ?c6 ?k6 ?a7 ?l7 ?c7 ?k7 ?a8 ?l8 ?c8 ?k8 ?a9 ?l9 ?c9 ?k9 ?z0 ?z1 ?z2 ?z3 ?z4 ?z5 ?z6 ?z7 ?z8 ?z9 ?z10 ?z11 ?z12 ?z13 ?z14 LW.law_holds
    (case a0 => k_is); (case l0 => k_is); (case c0 => k_is); (case k0 => k_is); (case a1 => k_is); (case l1 => k_is); (case c1 => k_is); (case k1 => k_is); (case a2 => k_is); (case l2 => k_is); (case c2 => k_is); (case k2 => k_is); (case a3 => k_is); (case l3 => k_is); (case c3 => k_is); (case k3 => k_is); (case a4 => k_is); (case l4 => k_is); (case c4 => k_is); (case k4 => k_is); (case a5 => k_is); (case l5 => k_is); (case c5 => k_is); (case k5 => k_is); (case a6 => k_is); (case l6 => k_is); (case c6 => k_is); (case k6 => k_is); (case a7 => k_is); (case l7 => k_is); (case c7 => k_is); (case k7 => k_is); (case a8 => k_is); (case l8 => k_is); (case c8 => k_is); (case k8 => k_is); (case a9 => k_is); (case l9 => k_is); (case c9 => k_is); (case k9 => k_is); (case z0 => k_is); (case z1 => k_is); (case z2 => k_is); (case z3 => k_is); (case z4 => k_is); (case z5 => k_is); (case z6 => k_is); (case z7 => k_is); (case z8 => k_is); (case z9 => k_is); (case z10 => k_is); (case z11 => k_is); (case z12 => k_is); (case z13 => k_is); (case z14 => k_is)
