import PyProof.Rows.All
import Wide.All
import OpenK.AllK
import Wide.FinOn
import HandS.ForMost
import HandS.Wide
import HandS.TupAny
import HandS.TupMul
import HandS.Style
import HandS.IsInst
import HandS.NoneIn
import HandS.SortInts
import HandS.Zip
import HandS.SortOrd
import HandS.SortRule
import HandS.TupSets
import HandS.SetFor
import HandS.Strs
import HandS.Dict
import HandS.FltList
import HandS.More
import HandS.List
import HandS.Iter
import KE.KDictDisplayH
import HandS.Deep
import KE.GoesZip
import KE.GoesMore
import PySem.Challenge.RW_placewise_k25_zeros_told_by_curves
set_option Elab.async false
set_option linter.all false
set_option maxRecDepth 100000
set_option maxHeartbeats 1000000
namespace Lay
open PySem PySem.Spec L2
open PyProof.Rows hiding St

abbrev D := PyData

mutual
/-- the value v stands for the data d, by the frozen heap F -/
inductive Rep (K : PySem.W.Frag) (F : Hp) : V → D → Prop
  | non : Rep K F .non .none
  | bl (b : Bool) : Rep K F (.bl b) (.bool b)
  | int (i : Int) : Rep K F (.int i) (.int i)
  | str (x : Str) : Rep K F (.str x) (.str x)
  | lst {a : Addr} {xs : List V} {ds : List D} : F a = some (.lst xs) → Reps K F xs ds → ds.length ≤ sizeLine → Rep K F (.ref a) (.list ds)
  | tup {a : Addr} {xs : List V} {ds : List D} : SqT K F a xs → Reps K F xs ds → ds.length ≤ sizeLine → Rep K F (.ref a) (.tuple ds)
inductive Reps (K : PySem.W.Frag) (F : Hp) : List V → List D → Prop
  | nil : Reps K F [] []
  | cons {v : V} {vs : List V} {d : D} {ds : List D} : Rep K F v d → Reps K F vs ds → Reps K F (v :: vs) (d :: ds)
end

section
variable {K : PySem.W.Frag} {F F' H : Hp}
theorem Rd.mono {a : Addr} {u : HO} (hF : ∀ a o, F a = some o → F' a = some o) (h : Rd F a u) : Rd F' a u := by
  rcases h with h | ⟨o, h⟩
  · exact .inl (hF _ _ h)
  · exact .inr ⟨o, hF _ _ h⟩
theorem sqL_mono {a : Addr} {xs : List V} (hF : ∀ a o, F a = some o → F' a = some o) (h : SqL K F a xs) : SqL K F' a xs := by
  rcases h with h | h
  · exact .inl (Rd.mono hF h)
  · exact .inr h
theorem sqT_mono {a : Addr} {xs : List V} (hF : ∀ a o, F a = some o → F' a = some o) (h : SqT K F a xs) : SqT K F' a xs := by
  rcases h with h | h
  · exact .inl (Rd.mono hF h)
  · exact .inr h
mutual
theorem Rep.mono (hF : ∀ a o, F a = some o → F' a = some o) : ∀ (d : D) (v : V), Rep K F v d → Rep K F' v d
  | .none, _, h => by cases h; exact .non
  | .bool b, _, h => by cases h; exact .bl b
  | .int i, _, h => by cases h; exact .int i
  | .str x, _, h => by cases h; exact .str x
  | .list ds, _, h => by
    cases h with
    | lst h1 h2 h3 => exact .lst (hF _ _ h1) (Reps.mono hF ds _ h2) h3
  | .tuple ds, _, h => by
    cases h with
    | tup h1 h2 h3 => exact .tup (sqT_mono hF h1) (Reps.mono hF ds _ h2) h3
  | .dict _, _, h => by cases h
theorem Reps.mono (hF : ∀ a o, F a = some o → F' a = some o) : ∀ (ds : List D) (vs : List V), Reps K F vs ds → Reps K F' vs ds
  | [], _, h => by cases h; exact .nil
  | d :: ds, _, h => by
    cases h with
    | cons h1 h2 => exact .cons (Rep.mono hF d _ h1) (Reps.mono hF ds _ h2)
end
mutual
theorem Rep.dp (hF : ∀ a o, F a = some o → F' a = some o) : ∀ (d : D) (v : V), Rep K F v d → Dp K F' v d
  | .none, _, h => by cases h; exact .non
  | .bool b, _, h => by cases h; exact .bl b
  | .int i, _, h => by cases h; exact .int i
  | .str x, _, h => by cases h; exact .str x
  | .list ds, _, h => by
    cases h with
    | lst h1 h2 h3 => exact .lst (SqL.of (hF _ _ h1)) (Reps.dp hF ds _ h2)
  | .tuple ds, _, h => by
    cases h with
    | tup h1 h2 h3 => exact .tup (sqT_mono hF h1) (Reps.dp hF ds _ h2)
  | .dict _, _, h => by cases h
theorem Reps.dp (hF : ∀ a o, F a = some o → F' a = some o) : ∀ (ds : List D) (vs : List V), Reps K F vs ds → DpAll K F' vs ds
  | [], _, h => by cases h; exact .nil
  | d :: ds, _, h => by
    cases h with
    | cons h1 h2 => exact .cons (Rep.dp hF d _ h1) (Reps.dp hF ds _ h2)
end
theorem Reps.len : ∀ {ds : List D} {vs : List V}, Reps K F vs ds → vs.length = ds.length
  | [], _, h => by cases h; rfl
  | d :: ds, _, h => by
    cases h with
    | cons h1 h2 => simp [Reps.len h2]
theorem Reps.get : ∀ {ds : List D} {vs : List V} {i : Nat} {d : D}, Reps K F vs ds → ds[i]? = some d → ∃ v, vs[i]? = some v ∧ Rep K F v d
  | [], _, i, d, h, e => by simp at e
  | _ :: _, _, 0, d, h, e => by
    cases h with
    | cons h1 h2 =>
      simp at e
      subst e
      exact ⟨_, rfl, h1⟩
  | _ :: _, _, i + 1, d, h, e => by
    cases h with
    | cons h1 h2 =>
      obtain ⟨v, e1, e2⟩ := Reps.get (i := i) (d := d) h2 (by simpa using e)
      exact ⟨v, by simpa using e1, e2⟩
theorem Reps.get' : ∀ {ds : List D} {vs : List V} {i : Nat} {v : V}, Reps K F vs ds → vs[i]? = some v → ∃ d, ds[i]? = some d ∧ Rep K F v d
  | [], _, i, v, h, e => by cases h; simp at e
  | _ :: _, _, 0, v, h, e => by
    cases h with
    | cons h1 h2 =>
      simp at e
      subst e
      exact ⟨_, rfl, h1⟩
  | _ :: _, _, i + 1, v, h, e => by
    cases h with
    | cons h1 h2 =>
      obtain ⟨d, e1, e2⟩ := Reps.get' (i := i) (v := v) h2 (by simpa using e)
      exact ⟨d, by simpa using e1, e2⟩
theorem Reps.append : ∀ {ds es : List D} {vs us : List V}, Reps K F vs ds → Reps K F us es → Reps K F (vs ++ us) (ds ++ es)
  | [], _, _, _, h, g => by cases h; exact g
  | _ :: _, _, _, _, h, g => by
    cases h with
    | cons h1 h2 => exact .cons h1 (Reps.append h2 g)
theorem Reps.take : ∀ {ds : List D} {vs : List V} (n : Nat), Reps K F vs ds → Reps K F (vs.take n) (ds.take n)
  | _, _, 0, _ => .nil
  | [], _, _ + 1, h => by cases h; exact .nil
  | _ :: _, _, n + 1, h => by
    cases h with
    | cons h1 h2 => exact .cons h1 (Reps.take n h2)
theorem Reps.drop : ∀ {ds : List D} {vs : List V} (n : Nat), Reps K F vs ds → Reps K F (vs.drop n) (ds.drop n)
  | _, _, 0, h => h
  | [], _, _ + 1, h => by cases h; exact .nil
  | _ :: _, _, n + 1, h => by
    cases h with
    | cons h1 h2 => exact Reps.drop n h2
theorem Reps.set {v : V} {d : D} (r : Rep K F v d) : ∀ {ds : List D} {vs : List V} (i : Nat), Reps K F vs ds → Reps K F (vs.set i v) (ds.set i d)
  | [], _, _, h => by cases h; exact .nil
  | _ :: _, _, 0, h => by
    cases h with
    | cons h1 h2 => exact .cons r h2
  | _ :: _, _, i + 1, h => by
    cases h with
    | cons h1 h2 => exact .cons h1 (Reps.set r i h2)
theorem Reps.reverse {ds : List D} {vs : List V} (h : Reps K F vs ds) : Reps K F vs.reverse ds.reverse := by
  induction ds generalizing vs with
  | nil => cases h; exact .nil
  | cons d ds ih =>
    cases h with
    | cons h1 h2 =>
      rw [List.reverse_cons, List.reverse_cons]
      exact (ih h2).append (.cons h1 .nil)
theorem Reps.ints : ∀ (ns : List Int), Reps K F (ns.map V.int) (ns.map PyData.int)
  | [] => .nil
  | n :: ns => .cons (.int n) (Reps.ints ns)
theorem Reps.ints_inv : ∀ {ns : List Int} {vs : List V}, Reps K F vs (ns.map PyData.int) → vs = ns.map V.int
  | [], _, h => by cases h; rfl
  | n :: ns, _, h => by
    cases h with
    | cons h1 h2 =>
      cases h1
      rw [Reps.ints_inv h2]; rfl
theorem Reps.bls_inv : ∀ {ns : List Bool} {vs : List V}, Reps K F vs (ns.map PyData.bool) → vs = ns.map V.bl
  | [], _, h => by cases h; rfl
  | n :: ns, _, h => by
    cases h with
    | cons h1 h2 =>
      cases h1
      rw [Reps.bls_inv h2]; rfl
theorem Reps.strs_inv : ∀ {ns : List Str} {vs : List V}, Reps K F vs (ns.map PyData.str) → vs = ns.map V.str
  | [], _, h => by cases h; rfl
  | n :: ns, _, h => by
    cases h with
    | cons h1 h2 =>
      cases h1
      rw [Reps.strs_inv h2]; rfl
end

/-- at p.1 stands the source: its draws (at p.2), the place -/
def WOk (H : Hp) (p : Addr × Addr) : Prop :=
  ∃ (n : Int) (ns : List Int), H p.1 = some (.dK [(.inr "draws", .ref p.2), (.inr "at", .int n)]) ∧ H p.2 = some (.lst (ns.map V.int)) ∧ 0 ≤ n ∧ ∀ r ∈ ns, 0 ≤ r ∧ r < 997
def isW (wo : Option (Addr × Addr)) (a : Addr) : Prop := ∃ d, wo = some (a, d)

structure Ext (wo : Option (Addr × Addr)) (F H F' H' : Hp) : Prop where
  ff : ∀ a o, F a = some o → F' a = some o
  fh : ∀ a o, F' a = some o → H' a = some o
  hh : ∀ a o, H a = some o → ¬ isW wo a → H' a = some o
  nw : ∀ a o, F' a = some o → F a = none → H a = none ∨ ∃ xs, H a = some (.tup xs)
  wk : ∀ p, wo = some p → WOk H' p
section
variable {K : PySem.W.Frag} {wo : Option (Addr × Addr)} {F F' F1 F2 H H' H1 H2 : Hp}
theorem WOk.ne {p : Addr × Addr} (w : WOk H p) : p.1 ≠ p.2 := by
  obtain ⟨n, ns, h1, h2, _⟩ := w
  exact ne_of h1 h2 (by intro z; cases z)
theorem WOk.keep {p : Addr × Addr} (w : WOk H p) (h1 : ∀ o, H p.1 = some o → H' p.1 = some o) (h2 : ∀ o, H p.2 = some o → H' p.2 = some o) : WOk H' p := by
  obtain ⟨n, ns, e1, e2, e3⟩ := w
  exact ⟨n, ns, h1 _ e1, h2 _ e2, e3⟩
theorem Ext.refl (h : ∀ a o, F a = some o → H a = some o) (w : ∀ p, wo = some p → WOk H p) : Ext wo F H F H :=
  ⟨fun _ _ e => e, h, fun _ _ e _ => e, fun _ _ e n => (by rw [n] at e; cases e), w⟩
theorem Ext.self (x : Ext wo F1 H1 F H) : Ext wo F H F H := Ext.refl x.fh x.wk
theorem Ext.back (x : Ext wo F H F' H') {a : Addr} (h : H' a = none) : H a = none := by
  cases e : H a with
  | none => rfl
  | some o =>
    by_cases q : isW wo a
    · obtain ⟨d, q⟩ := q
      obtain ⟨_, _, z, _⟩ := x.wk _ q
      rw [show H' a = _ from z] at h; cases h
    · rw [x.hh a o e q] at h; cases h
theorem Ext.trans (x : Ext wo F H F1 H1) (y : Ext wo F1 H1 F2 H2) : Ext wo F H F2 H2 where
  ff := fun a o e => y.ff a o (x.ff a o e)
  fh := y.fh
  hh := fun a o e q => y.hh a o (x.hh a o e q) q
  nw := fun a o e n => by
    cases q : F1 a with
    | none =>
      rcases y.nw a o e q with z | ⟨xs, z⟩
      · exact .inl (x.back z)
      · cases e1 : H a with
        | none => exact .inl rfl
        | some u =>
          by_cases w : isW wo a
          · obtain ⟨d, w⟩ := w
            obtain ⟨_, _, z2, _⟩ := x.wk _ w
            rw [show H1 a = _ from z2] at z
            cases z
          · rw [x.hh a u e1 w] at z
            cases z
            exact .inr ⟨_, rfl⟩
    | some u => exact x.nw a u q n
  wk := y.wk
theorem notW : ¬ isW none a := fun ⟨_, q⟩ => nomatch q
/-- a pure step within a step that may turn the source -/
theorem Ext.pure (x : Ext none F H F' H') (w : ∀ p, wo = some p → WOk H p) : Ext wo F H F' H' where
  ff := x.ff
  fh := x.fh
  hh := fun a o e _ => x.hh a o e notW
  nw := x.nw
  wk := fun p e => (w p e).keep (fun o q => x.hh _ o q notW) (fun o q => x.hh _ o q notW)
/-- a new object, frozen -/
theorem Ext.new {p : Addr} {o : HO} (h : ∀ a o, F a = some o → H a = some o) (w : ∀ p, wo = some p → WOk H p) (hp : H p = none) : Ext wo F H (upd F p o) (upd H p o) := by
  have nh : ∀ a u, H a = some u → a ≠ p := fun a u e => ne_of_none e hp
  refine ⟨fun a u e => ?_, fun a u e => ?_, fun a u e _ => by rw [upd_ne (nh a u e)]; exact e, fun a u e n => ?_, fun q e => (w q e).keep (fun u e => by rw [upd_ne (nh _ u e)]; exact e) fun u e => by rw [upd_ne (nh _ u e)]; exact e⟩
  · rw [upd_ne (nh a u (h a u e))]; exact e
  · by_cases q : a = p
    · subst q; rw [upd_same] at e ⊢; exact e
    · rw [upd_ne q] at e ⊢; exact h a u e
  · by_cases q : a = p
    · subst q; exact .inl hp
    · rw [upd_ne q] at e; rw [n] at e; cases e
/-- an object is made or turned that stood neither in H nor in F -/
theorem Ext.poke {p : Addr} {o : HO} (x : Ext wo F H F' H') (hp : H p = none) (fp : F' p = none) (w : ∀ q, wo = some q → p ≠ q.1 ∧ p ≠ q.2) : Ext wo F H F' (upd H' p o) where
  ff := x.ff
  fh := fun a u e => by rw [upd_ne (ne_of_none e fp)]; exact x.fh a u e
  hh := fun a u e n => by rw [upd_ne (ne_of_none e hp)]; exact x.hh a u e n
  nw := x.nw
  wk := fun q e => (x.wk q e).keep (fun u z => by rw [upd_ne (w q e).1.symm]; exact z) fun u z => by rw [upd_ne (w q e).2.symm]; exact z
theorem Ext.wne (x : Ext wo F H F' H') {p : Addr} (hp : H' p = none) : ∀ q, wo = some q → p ≠ q.1 ∧ p ≠ q.2 := fun q e => by
  obtain ⟨_, _, h1, h2, _⟩ := x.wk q e
  exact ⟨(ne_of_none h1 hp).symm, (ne_of_none h2 hp).symm⟩
end

inductive Sl where
  | un | val (d : D) | own (xs : List D) | dic (kvs : List (Key × D)) | wv | scr (ns : List Int)
abbrev En := List Sl
def Sl.isOwn : Sl → Bool
  | .own _ => true
  | .dic _ => true
  | _ => false
inductive KReps (K : PySem.W.Frag) (F : Hp) : List (Key × V) → List (Key × D) → Prop
  | nil : KReps K F [] []
  | cons {k : Key} {v : V} {vs : List (Key × V)} {d : D} {ds : List (Key × D)} : Rep K F v d → KReps K F vs ds → KReps K F ((k, v) :: vs) ((k, d) :: ds)
theorem KReps.mono {K : PySem.W.Frag} {F F' : Hp} (hF : ∀ a o, F a = some o → F' a = some o) : ∀ {vs : List (Key × V)} {ds : List (Key × D)}, KReps K F vs ds → KReps K F' vs ds
  | _, _, .nil => .nil
  | _, _, .cons r t => .cons (Rep.mono hF _ _ r) (KReps.mono hF t)
/-- the entry: the source, the frozen heap, the heap -/
structure Ct where
  wo : Option (Addr × Addr)
  F_0 : Hp
  H_0 : Hp
def SlR (K : PySem.W.Frag) (c : Ct) (F H : Hp) (ov : Option V) : Sl → Prop
  | .un => True
  | .val d => ∃ v, ov = some v ∧ Rep K F v d
  | .own ds => ∃ a vs, ov = some (.ref a) ∧ H a = some (.lst vs) ∧ Reps K F vs ds ∧ ds.length ≤ sizeLine
  | .dic kvs => ∃ a vs, ov = some (.ref a) ∧ H a = some (.dK vs) ∧ KReps K F vs kvs ∧ kvs.length ≤ sizeLine
  | .wv => ∃ a, ov = some (.ref a) ∧ isW c.wo a
  | .scr ns => ∃ a, ov = some (.ref a) ∧ SqL K F a (ns.map V.int)
def ownAt (σ : St) (en : En) (i : Nat) (a : Addr) : Prop := σ[i]? = some (some (.ref a)) ∧ ∃ s, en[i]? = some s ∧ s.isOwn = true
structure SR (K : PySem.W.Frag) (c : Ct) (F : Hp) (σ : St) (H : Hp) (en : En) : Prop where
  ext : Ext c.wo c.F_0 c.H_0 F H
  len : σ.length = en.length
  sl : ∀ (i : Nat) s, en[i]? = some s → ∃ ov, σ[i]? = some ov ∧ SlR K c F H ov s
  own : ∀ i a, ownAt σ en i a → F a = none ∧ (∀ p, c.wo = some p → a ≠ p.1 ∧ a ≠ p.2) ∧ c.H_0 a = none
  apart : ∀ i j a, ownAt σ en i a → ownAt σ en j a → i = j
  wn : ∀ p, c.wo = some p → F p.1 = none
section
variable {K : PySem.W.Frag} {c : Ct} {F F' H H' : Hp} {σ : St} {en : En}
theorem SR.fh (r : SR K c F σ H en) : ∀ a o, F a = some o → H a = some o := r.ext.fh
theorem SR.wk (r : SR K c F σ H en) : ∀ p, c.wo = some p → WOk H p := r.ext.wk
theorem SR.there (r : SR K c F σ H en) {i : Nat} {a : Addr} (h : ownAt σ en i a) : ∃ o, H a = some o ∧ ∀ ps, o ≠ .tup ps := by
  obtain ⟨e, s, es, so⟩ := h
  obtain ⟨ov, eo, q⟩ := r.sl i s es
  rw [e] at eo; cases eo
  cases s with
  | un => cases so
  | val d => cases so
  | wv => cases so
  | scr ns => cases so
  | own ds =>
    obtain ⟨b, vs, e1, e2, _⟩ := q
    cases e1
    exact ⟨_, e2, fun _ z => nomatch z⟩
  | dic ds =>
    obtain ⟨b, vs, e1, e2, _⟩ := q
    cases e1
    exact ⟨_, e2, fun _ z => nomatch z⟩
theorem SR.notW (r : SR K c F σ H en) {i : Nat} {a : Addr} (h : ownAt σ en i a) : ¬ isW c.wo a := fun ⟨d, q⟩ => ((r.own i a h).2.1 _ q).1 rfl
theorem SR.grow (r : SR K c F σ H en) (x : Ext c.wo F H F' H') : SR K c F' σ H' en where
  ext := r.ext.trans x
  len := r.len
  sl := fun i s e => by
    obtain ⟨ov, eo, q⟩ := r.sl i s e
    refine ⟨ov, eo, ?_⟩
    cases s with
    | un => trivial
    | val d =>
      obtain ⟨v, e1, e2⟩ := q
      exact ⟨v, e1, Rep.mono x.ff _ _ e2⟩
    | own ds =>
      obtain ⟨a, vs, e1, e2, e3, e4⟩ := q
      subst e1
      exact ⟨a, vs, rfl, x.hh _ _ e2 (r.notW ⟨eo, _, e, rfl⟩), Reps.mono x.ff _ _ e3, e4⟩
    | dic ds =>
      obtain ⟨a, vs, e1, e2, e3, e4⟩ := q
      subst e1
      exact ⟨a, vs, rfl, x.hh _ _ e2 (r.notW ⟨eo, _, e, rfl⟩), KReps.mono x.ff e3, e4⟩
    | wv => exact q
    | scr ns =>
      obtain ⟨a, e1, e2⟩ := q
      exact ⟨a, e1, sqL_mono x.ff e2⟩
  own := fun i a h => by
    obtain ⟨h1, h2, h3⟩ := r.own i a h
    refine ⟨?_, h2, h3⟩
    cases e : F' a with
    | none => rfl
    | some o =>
      obtain ⟨o', e', nt⟩ := r.there h
      rcases x.nw a o e h1 with z | ⟨xs, z⟩
      · rw [z] at e'; cases e'
      · rw [z] at e'; cases e'; exact absurd rfl (nt xs)
  apart := r.apart
  wn := fun p e => by
    cases q : F' p.1 with
    | none => rfl
    | some o =>
      obtain ⟨_, _, z, _⟩ := r.wk p e
      rcases x.nw _ o q (r.wn p e) with h1 | ⟨xs, h1⟩ <;> (rw [h1] at z; cases z)
theorem get_set {α : Type} {l : List α} {i j : Nat} {x s : α} (e : (l.set i x)[j]? = some s) : (i = j ∧ s = x ∧ i < l.length) ∨ (i ≠ j ∧ l[j]? = some s) := by
  by_cases q : i = j
  · subst q
    by_cases hl : i < l.length
    · rw [List.getElem?_set_self hl] at e
      cases e
      exact .inl ⟨rfl, rfl, hl⟩
    · rw [List.getElem?_eq_none (by simp; omega)] at e; cases e
  · rw [List.getElem?_set_ne q] at e
    exact .inr ⟨q, e⟩
theorem own_set {i j : Nat} {ov : Option V} {s : Sl} {a : Addr} (n : s.isOwn = false) (h : ownAt (σ.set i ov) (en.set i s) j a) : ownAt σ en j a := by
  obtain ⟨e, u, eu, ou⟩ := h
  rcases get_set eu with ⟨_, e1, _⟩ | ⟨q, e1⟩
  · rw [e1, n] at ou; cases ou
  · rw [List.getElem?_set_ne q] at e
    exact ⟨e, u, e1, ou⟩
/-- a slot is stored with what is not owned -/
theorem SR.setS (r : SR K c F σ H en) {i : Nat} {ov : Option V} {s : Sl} (n : s.isOwn = false) (h : SlR K c F H ov s) : SR K c F (σ.set i ov) H (en.set i s) where
  ext := r.ext
  len := by simp [r.len]
  sl := fun j u e => by
    rcases get_set e with ⟨q, e1, hl⟩ | ⟨q, e1⟩
    · subst q e1
      exact ⟨ov, by rw [List.getElem?_set_self (by rw [r.len]; exact hl)], h⟩
    · obtain ⟨w, e2, e3⟩ := r.sl j u e1
      exact ⟨w, by rw [List.getElem?_set_ne q]; exact e2, e3⟩
  own := fun j a h => r.own j a (own_set n h)
  apart := fun j k a h g => r.apart j k a (own_set n h) (own_set n g)
  wn := r.wn
theorem SR.set (r : SR K c F σ H en) {i : Nat} {v : V} {d : D} (h : Rep K F v d) : SR K c F (σ.set i (some v)) H (en.set i (.val d)) := r.setS rfl ⟨v, rfl, h⟩
/-- a slot is stored with a new list or dict of its own (tracked, not frozen) -/
theorem SR.setO (r : SR K c F σ H en) {i : Nat} {p : Addr} {s : Sl} {o : HO} (hp : H p = none) (h : SlR K c F (upd H p o) (some (.ref p)) s) : SR K c F (σ.set i (some (.ref p))) (upd H p o) (en.set i s) := by
  have fp : F p = none := by
    cases q : F p with
    | none => rfl
    | some u => rw [r.fh _ _ q] at hp; cases hp
  have x : Ext c.wo F H F (upd H p o) := r.ext.self.poke hp fp (r.ext.wne hp)
  have g := r.grow x
  have np : ∀ {j a}, ownAt σ en j a → a ≠ p := fun {j a} z => by
    obtain ⟨u, e, _⟩ := r.there z
    exact ne_of_none e hp
  have inv : ∀ {j a}, ownAt (σ.set i (some (.ref p))) (en.set i s) j a → (j = i ∧ a = p) ∨ (j ≠ i ∧ ownAt σ en j a) := fun {j a} z => by
    obtain ⟨e, u, eu, ou⟩ := z
    rcases get_set eu with ⟨q, e1, hl⟩ | ⟨q, e1⟩
    · subst q
      rw [List.getElem?_set_self (by rw [r.len]; exact hl)] at e
      cases e
      exact .inl ⟨rfl, rfl⟩
    · rw [List.getElem?_set_ne q] at e
      exact .inr ⟨fun z => q z.symm, e, u, e1, ou⟩
  refine ⟨g.ext, by simp [r.len], fun j u e => ?_, fun j a z => ?_, fun j k a z1 z2 => ?_, r.wn⟩
  · rcases get_set e with ⟨q, e1, hl⟩ | ⟨q, e1⟩
    · subst q e1
      exact ⟨_, by rw [List.getElem?_set_self (by rw [r.len]; exact hl)], h⟩
    · obtain ⟨w, e2, e3⟩ := g.sl j u e1
      exact ⟨w, by rw [List.getElem?_set_ne q]; exact e2, e3⟩
  · rcases inv z with ⟨_, e⟩ | ⟨_, z⟩
    · subst e
      exact ⟨fp, r.ext.wne hp, r.ext.back hp⟩
    · exact g.own j a z
  · rcases inv z1 with ⟨e1, e2⟩ | ⟨n1, y1⟩
    · rcases inv z2 with ⟨e3, e4⟩ | ⟨n2, y2⟩
      · rw [e1, e3]
      · exact absurd e2 (np y2)
    · rcases inv z2 with ⟨e3, e4⟩ | ⟨n2, y2⟩
      · exact absurd e4 (np y1)
      · exact r.apart j k a y1 y2
/-- an owned list or dict is turned in its place -/
theorem SR.turn (r : SR K c F σ H en) {i : Nat} {a : Addr} {s : Sl} {o : HO} (ha : ownAt σ en i a) (h : SlR K c F (upd H a o) (some (.ref a)) s) : SR K c F σ (upd H a o) (en.set i s) := by
  obtain ⟨o1, o2, o3⟩ := r.own i a ha
  have np : ∀ {j b}, j ≠ i → ownAt σ en j b → b ≠ a := fun {j b} n z q => by
    subst q
    exact n (r.apart _ _ _ z ha)
  have inv : ∀ {j b}, ownAt σ (en.set i s) j b → (j = i ∧ b = a) ∨ (j ≠ i ∧ ownAt σ en j b) := fun {j b} z => by
    obtain ⟨e, u, eu, ou⟩ := z
    rcases get_set eu with ⟨q, e1, hl⟩ | ⟨q, e1⟩
    · subst q
      rw [ha.1] at e
      cases e
      exact .inl ⟨rfl, rfl⟩
    · exact .inr ⟨fun z => q z.symm, e, u, e1, ou⟩
  refine ⟨r.ext.poke o3 o1 o2, by simp [r.len], fun j u e => ?_, fun j b z => ?_, fun j k b z1 z2 => ?_, r.wn⟩
  · rcases get_set e with ⟨q, e1, hl⟩ | ⟨q, e1⟩
    · subst q e1
      exact ⟨_, ha.1, h⟩
    · obtain ⟨w, e2, e3⟩ := r.sl j u e1
      refine ⟨w, e2, ?_⟩
      cases u with
      | un => trivial
      | val d => exact e3
      | own ds =>
        obtain ⟨b, vs, e1', e2', e3', e4'⟩ := e3
        subst e1'
        exact ⟨b, vs, rfl, by rw [upd_ne (np (fun z => q z.symm) ⟨e2, _, e1, rfl⟩)]; exact e2', e3', e4'⟩
      | dic ds =>
        obtain ⟨b, vs, e1', e2', e3', e4'⟩ := e3
        subst e1'
        exact ⟨b, vs, rfl, by rw [upd_ne (np (fun z => q z.symm) ⟨e2, _, e1, rfl⟩)]; exact e2', e3', e4'⟩
      | wv => exact e3
      | scr ns => exact e3
  · rcases inv z with ⟨_, e⟩ | ⟨_, z⟩
    · subst e; exact ⟨o1, o2, o3⟩
    · exact r.own j b z
  · rcases inv z1 with ⟨e1, e2⟩ | ⟨n1, y1⟩
    · rcases inv z2 with ⟨e3, e4⟩ | ⟨n2, y2⟩
      · rw [e1, e3]
      · exact absurd e2 (np n2 y2)
    · rcases inv z2 with ⟨e3, e4⟩ | ⟨n2, y2⟩
      · exact absurd e4 (np n1 y1)
      · exact r.apart j k b y1 y2
/-- an owned list is frozen -/
theorem SR.freeze (r : SR K c F σ H en) {i : Nat} {xs : List D} (e : en[i]? = some (.own xs)) : ∃ F', Ext c.wo c.F_0 c.H_0 F' H ∧ (∀ a o, F a = some o → F' a = some o) ∧ SR K c F' σ H (en.set i (.val (.list xs))) := by
  obtain ⟨ov, eo, a, vs, e1, e2, e3, e4⟩ := r.sl i _ e
  subst e1
  have ha : ownAt σ en i a := ⟨eo, _, e, rfl⟩
  obtain ⟨o1, o2, o3⟩ := r.own i a ha
  have ff : ∀ b o, F b = some o → upd F a (.lst vs) b = some o := fun b o q => by rw [upd_ne (ne_of_none q o1)]; exact q
  have x : Ext c.wo c.F_0 c.H_0 (upd F a (.lst vs)) H := by
    refine ⟨fun b o q => ff b o (r.ext.ff b o q), fun b o q => ?_, r.ext.hh, fun b o q n => ?_, r.wk⟩
    · by_cases z : b = a
      · subst z; rw [upd_same] at q; cases q; exact e2
      · rw [upd_ne z] at q; exact r.fh b o q
    · by_cases z : b = a
      · subst z; exact .inl o3
      · rw [upd_ne z] at q; exact r.ext.nw b o q n
  have nu : ∀ {j b}, ownAt σ (en.set i (.val (.list xs))) j b → j ≠ i ∧ ownAt σ en j b := fun {j b} z => by
    obtain ⟨e, u, eu, ou⟩ := z
    rcases get_set eu with ⟨q, e1, hl⟩ | ⟨q, e1⟩
    · rw [e1] at ou; cases ou
    · exact ⟨fun z => q z.symm, e, u, e1, ou⟩
  refine ⟨upd F a (.lst vs), x, ff, x, by simp [r.len], fun j u q => ?_, fun j b z => ?_, fun j k b z1 z2 => r.apart j k b (nu z1).2 (nu z2).2, fun p q => ?_⟩
  · rcases get_set q with ⟨q, e1, hl⟩ | ⟨q, e1⟩
    · subst q e1
      exact ⟨_, eo, _, rfl, .lst upd_same (Reps.mono ff _ _ e3) e4⟩
    · obtain ⟨w, g2, g3⟩ := r.sl j u e1
      refine ⟨w, g2, ?_⟩
      cases u with
      | un => trivial
      | val d =>
        obtain ⟨v, h1, h2⟩ := g3
        exact ⟨v, h1, Rep.mono ff _ _ h2⟩
      | own ds =>
        obtain ⟨b, us, h1, h2, h3, h4⟩ := g3
        exact ⟨b, us, h1, h2, Reps.mono ff _ _ h3, h4⟩
      | dic ds =>
        obtain ⟨b, us, h1, h2, h3, h4⟩ := g3
        exact ⟨b, us, h1, h2, KReps.mono ff h3, h4⟩
      | wv => exact g3
      | scr ns =>
        obtain ⟨b, h1, h2⟩ := g3
        exact ⟨b, h1, sqL_mono ff h2⟩
  · obtain ⟨n, z⟩ := nu z
    obtain ⟨p1, p2, p3⟩ := r.own j b z
    refine ⟨?_, p2, p3⟩
    rw [upd_ne (fun q => n (r.apart _ _ _ (by rw [← q]; exact z) ha))]
    exact p1
  · rw [upd_ne (o2 p q).1.symm]
    exact r.wn p q
end

abbrev DTE := En → (D → Prop) → Prop
abbrev DTT := En → (Bool → Prop) → Prop
abbrev DTA := En → (List D → Prop) → Prop
def liftE (K : PySem.W.Frag) (c : Ct) (m : DTE) : TE := fun σ H Q => ∃ F en R, SR K c F σ H en ∧ m en R ∧ ∀ d, R d → ∀ v F' H', Ext c.wo F H F' H' → Rep K F' v d → Q v H'
def liftT (K : PySem.W.Frag) (c : Ct) (m : DTT) : TT := fun σ H Q => ∃ F en R, SR K c F σ H en ∧ m en R ∧ ∀ b, R b → ∀ F' H', Ext c.wo F H F' H' → Q b H'
def liftA (K : PySem.W.Frag) (c : Ct) (n : Nat) (m : DTA) : TA := fun σ H Q => ∃ F en R, SR K c F σ H en ∧ m en R ∧ ∀ ds, R ds → ∀ vs F' H', Ext c.wo F H F' H' → Reps K F' vs ds → vs.length = n → Q vs H'
structure DE (X : Cx) (c : Ct) (e : Expr) (m : DTE) : Prop where
  run : PE X e (liftE X.K c m)
structure DT (X : Cx) (c : Ct) (e : Expr) (m : DTT) : Prop where
  run : PT X e (liftT X.K c m)
structure DA (X : Cx) (c : Ct) (es : List Expr) (m : DTA) : Prop where
  run : PA X es (liftA X.K c es.length m)
theorem PE.imp {X : Cx} {e : Expr} {t t' : TE} (h : PE X e t) (k : ∀ σ H Q, t' σ H Q → t σ H Q) : PE X e t' := ⟨fun pins s σ H Q I q => h.run pins s σ H Q I (k _ _ _ q)⟩
theorem PT.imp {X : Cx} {e : Expr} {t t' : TT} (h : PT X e t) (k : ∀ σ H Q, t' σ H Q → t σ H Q) : PT X e t' := ⟨fun pins s σ H Q I q => h.run pins s σ H Q I (k _ _ _ q)⟩
theorem PA.imp {X : Cx} {e : List Expr} {t t' : TA} (h : PA X e t) (k : ∀ σ H Q, t' σ H Q → t σ H Q) : PA X e t' := ⟨fun pos pins s σ H Q I q => h.run pos pins s σ H Q I (k _ _ _ q)⟩

section
variable {X : Cx} {c : Ct} {e a b : Expr} {es : List Expr} {m ma mb : DTE} {ml : DTA} {pos : Pos}
/-- the slot i -/
def gt : En → Nat → Sl
  | [], _ => .un
  | s :: _, 0 => s
  | _ :: r, i + 1 => gt r i
theorem gt_get : ∀ {en : En} {i : Nat} {s : Sl}, gt en i = s → s ≠ .un → en[i]? = some s
  | [], _, _, h, n => absurd h.symm n
  | _ :: _, 0, _, h, _ => by simpa [gt] using h
  | _ :: r, i + 1, _, h, n => by
    have h' : gt r i = _ := h
    simpa using gt_get h' n
/-- a step: what a part gives goes on -/
theorem lift_step {K : PySem.W.Frag} {F H : Hp} {en : En} {σ : St} {m : DTE} {R : D → Prop} {Q : VK} (r : SR K c F σ H en) (h : m en R) (k : ∀ d, R d → ∀ v F' H', Ext c.wo F H F' H' → Rep K F' v d → Q v H') : liftE K c m σ H Q := ⟨F, en, R, r, h, k⟩
def onVal (s : Sl) (K : D → Prop) : Prop := match s with | .val d => K d | _ => False
def onOwn (s : Sl) (K : List D → Prop) : Prop := match s with | .own ds => K ds | _ => False
def onDic (s : Sl) (K : List (Key × D) → Prop) : Prop := match s with | .dic ds => K ds | _ => False
def onScr (s : Sl) (K : List Int → Prop) : Prop := match s with | .scr ds => K ds | _ => False
def onWv (s : Sl) (K : Prop) : Prop := match s with | .wv => K | _ => False
def dVar (i : Nat) (en : En) (Q : D → Prop) : Prop := onVal (gt en i) Q
theorem de_var {i : Nat} {x : Str} (hN : X.N[i]? = some x) (hv : Vis X.env.scope x) (hd : (x == ("__debug__" : Str)) = false := by decide) (hcd : (x == ("__classdict__" : Str)) = false := by decide) : DE X c (.Name x pos) (dVar i) := by
  refine ⟨PE.imp (pe_var hN hv hd hcd) ?_⟩
  rintro σ H Q ⟨F, en, R, r, h, k⟩
  unfold dVar onVal at h
  split at h
  · rename_i d e
    obtain ⟨ov, e1, v, e2, e3⟩ := r.sl i _ (gt_get e (fun z => nomatch z))
    subst e2
    exact ⟨v, e1, k _ h v F H r.ext.self e3⟩
  · exact h.elim
def dC (d : D) (_x : En) (Q : D → Prop) : Prop := Q d
theorem de_int {i j} : DE X c (.Constant (.int i) j pos) (dC (.int i)) := ⟨PE.imp pe_int fun σ H Q ⟨F, en, R, r, h, k⟩ => k _ h _ F H r.ext.self (.int i)⟩
theorem de_bl {i j} : DE X c (.Constant (.bool i) j pos) (dC (.bool i)) := ⟨PE.imp pe_bl fun σ H Q ⟨F, en, R, r, h, k⟩ => k _ h _ F H r.ext.self (.bl i)⟩
theorem de_non {j} : DE X c (.Constant .none j pos) (dC .none) := ⟨PE.imp pe_non fun σ H Q ⟨F, en, R, r, h, k⟩ => k _ h _ F H r.ext.self .non⟩
theorem de_str {x j} : DE X c (.Constant (.str x) j pos) (dC (.str x)) := ⟨PE.imp pe_str fun σ H Q ⟨F, en, R, r, h, k⟩ => k _ h _ F H r.ext.self (.str x)⟩

abbrev D2 := D → D → (D → Prop) → Prop
/-- the rule r2 by values serves the data's rule d2 -/
def Serves (K : PySem.W.Frag) (c : Ct) (r2 : R2) (d2 : D2) : Prop :=
  ∀ (F H : Hp) (x y : V) (d e : D) (R : D → Prop) (Q : VK), Ext c.wo F H F H → Rep K F x d → Rep K F y e → d2 d e R → (∀ z, R z → ∀ v F' H', Ext c.wo F H F' H' → Rep K F' v z → Q v H') → r2 x y H Q
def dOp (d2 : D2) (ma mb : DTE) (en : En) (Q : D → Prop) : Prop := ma en fun x => mb en fun y => d2 x y Q
theorem lift_two {K : PySem.W.Frag} {r2 : R2} {d2 : D2} (sv : Serves K c r2 d2) {σ : St} {H : Hp} {Q : VK} (h : liftE K c (dOp d2 ma mb) σ H Q) : liftE K c ma σ H fun x H1 => liftE K c mb σ H1 fun y H2 => r2 x y H2 Q := by
  obtain ⟨F, en, R, r, h, k⟩ := h
  refine ⟨F, en, _, r, h, fun d hd v F1 H1 x1 rv => ?_⟩
  refine ⟨F1, en, _, r.grow x1, hd, fun e he u F2 H2 x2 ru => ?_⟩
  exact sv F2 H2 v u d e R Q x2.self (Rep.mono x2.ff _ _ rv) ru he fun z hz v' F' H' x3 rz => k z hz v' F' H' (x1.trans (x2.trans x3)) rz
end
end Lay
namespace Lay
open PySem PySem.Spec L2
open PyProof.Rows hiding St

/-- by a bool -/
def Cnd (b : Bool) (A B : Prop) : Prop := match b with | true => A | false => B
section
variable {X : Cx} {c : Ct} {e a b : Expr} {es : List Expr} {m ma mb : DTE} {ml : DTA} {mt mu : DTT} {pos : Pos}
theorem de_op {op : Operator} {r2 : R2} {d2 : D2} (ho : OpR X (binaryOp op) r2) (sv : Serves X.K c r2 d2) (ha : DE X c a ma) (hb : DE X c b mb) : DE X c (.BinOp a op b pos) (dOp d2 ma mb) :=
  ⟨PE.imp (pe_op ho ha.run hb.run) fun _ _ _ h => lift_two sv h⟩
theorem de_cmp {op : CmpOp} {r2 : R2} {d2 : D2} (ho : OpR X (compareOp op) r2) (sv : Serves X.K c r2 d2) (ha : DE X c a ma) (hb : DE X c b mb) (hm : behindInMarks op b = false) : DE X c (.Compare a [op] [b] pos) (dOp d2 ma mb) :=
  ⟨PE.imp (pe_cmpR ho ha.run hb.run hm) fun _ _ _ h => lift_two sv h⟩
/-- a value that is a bool, as a test -/
def asB (d : D) (Q : Bool → Prop) : Prop := match d with | .bool b => Q b | _ => False
def dT (m : DTE) (en : En) (Q : Bool → Prop) : Prop := m en fun d => asB d Q
theorem lift_test {K : PySem.W.Frag} {σ : St} {H : Hp} {Q : Bool → Hp → Prop} (h : liftT K c (dT m) σ H Q) : liftE K c m σ H fun x H' => ∃ k, x = .bl k ∧ Q k H' := by
  obtain ⟨F, en, R, r, h, k⟩ := h
  refine ⟨F, en, _, r, h, fun d hd v F' H' x rv => ?_⟩
  cases d with
  | bool b =>
    cases rv
    exact ⟨b, rfl, k b hd F' H' x⟩
  | _ => exact False.elim hd
theorem dt_cmp {op : CmpOp} {r2 : R2} {d2 : D2} (ho : OpR X (compareOp op) r2) (sv : Serves X.K c r2 d2) (ha : DE X c a ma) (hb : DE X c b mb) (hm : behindInMarks op b = false) : DT X c (.Compare a [op] [b] pos) (dT (dOp d2 ma mb)) := by
  refine ⟨PT.imp (pt_cmpR ho ha.run hb.run hm) fun σ H Q h => ?_⟩
  obtain ⟨F, en, R, r, h, k⟩ := lift_test h
  exact lift_two sv ⟨F, en, R, r, h, k⟩
theorem dt_val (h : DE X c e m) (he : ∀ whole, isTrue e X.env whole = (do let v ← whole; standAt e.pos; holding [v] (truthy v)) := by intro _; rfl) : DT X c e (dT m) :=
  ⟨PT.imp (pt_val h.run he) fun σ H Q h => lift_test h⟩

def addD : D2
  | .int i, .int j, Q => Q (.int (i + j))
  | .str x, .str y, Q => x.length + y.length ≤ sizeLine ∧ Q (.str (x ++ y))
  | .tuple xs, .tuple ys, Q => xs.length + ys.length ≤ sizeLine ∧ Q (.tuple (xs ++ ys))
  | .list xs, .list ys, Q => xs.length + ys.length ≤ sizeLine ∧ Q (.list (xs ++ ys))
  | _, _, _ => False
theorem Rep.tupI {K : PySem.W.Frag} {F : Hp} {v : V} {ds : List D} (h : Rep K F v (.tuple ds)) : ∃ a xs, v = .ref a ∧ SqT K F a xs ∧ Reps K F xs ds ∧ ds.length ≤ sizeLine := by
  cases h with
  | tup h1 h2 h3 => exact ⟨_, _, rfl, h1, h2, h3⟩
theorem Rep.lstI {K : PySem.W.Frag} {F : Hp} {v : V} {ds : List D} (h : Rep K F v (.list ds)) : ∃ a xs, v = .ref a ∧ F a = some (.lst xs) ∧ Reps K F xs ds ∧ ds.length ≤ sizeLine := by
  cases h with
  | lst h1 h2 h3 => exact ⟨_, _, rfl, h1, h2, h3⟩
theorem Reps.nil_iff {K : PySem.W.Frag} {F : Hp} {ds : List D} {vs : List V} (h : Reps K F vs ds) : vs = [] ↔ ds = [] := by
  cases h with
  | nil => simp
  | cons _ _ => simp
/-- a new frozen object that stands for data -/
theorem newTup {K : PySem.W.Frag} {F H : Hp} {p : Addr} {xs : List V} {ds : List D} (x : Ext c.wo F H F H) (hp : H p = none) (r : Reps K F xs ds) (z : ds.length ≤ sizeLine) :
    Ext c.wo F H (upd F p (.tup xs)) (upd H p (.tup xs)) ∧ Rep K (upd F p (.tup xs)) (.ref p) (.tuple ds) := by
  have y := Ext.new (o := .tup xs) x.fh x.wk hp
  exact ⟨y, .tup (SqT.of upd_same) (Reps.mono y.ff _ _ r) z⟩
theorem newLst {K : PySem.W.Frag} {F H : Hp} {p : Addr} {xs : List V} {ds : List D} (x : Ext c.wo F H F H) (hp : H p = none) (r : Reps K F xs ds) (z : ds.length ≤ sizeLine) :
    Ext c.wo F H (upd F p (.lst xs)) (upd H p (.lst xs)) ∧ Rep K (upd F p (.lst xs)) (.ref p) (.list ds) := by
  have y := Ext.new (o := .lst xs) x.fh x.wk hp
  exact ⟨y, .lst upd_same (Reps.mono y.ff _ _ r) z⟩
theorem sv_add {K : PySem.W.Frag} : Serves K c (fun x y H Q => (rI0 (fun i j => .int (i + j))) x y H Q ∨ (∃ i j, x = .str i ∧ y = .str j ∧ i.length + j.length ≤ sizeLine ∧ Q (.str (i ++ j)) H) ∨ rCatA K x y H Q ∨ rCat x y H Q) addD := by
  intro F H x y d e R Q ex rx ry h k
  cases d with
  | int i =>
    cases e with
    | int j => cases rx; cases ry; exact .inl ⟨i, j, rfl, rfl, k _ h _ F H ex (.int _)⟩
    | _ => exact False.elim h
  | str i =>
    cases e with
    | str j => cases rx; cases ry; exact .inr (.inl ⟨i, j, rfl, rfl, h.1, k _ h.2 _ F H ex (.str _)⟩)
    | _ => exact False.elim h
  | tuple ds =>
    cases e with
    | tuple es =>
      obtain ⟨p, xs, rfl, h1, h2, h3⟩ := rx.tupI
      obtain ⟨q, ys, rfl, g1, g2, g3⟩ := ry.tupI
      obtain ⟨hz, h⟩ := h
      have l1 := h2.len
      have l2 := g2.len
      refine .inr (.inr (.inl ⟨p, q, xs, ys, rfl, rfl, sqT_mono ex.fh h1, sqT_mono ex.fh g1, by omega, fun e0 => ?_, fun n0 e0 => ?_, fun n0 n1 t ht => ?_⟩))
      · have : ds = [] := h2.nil_iff.mp e0
        subst this
        exact k _ h _ F H ex ry
      · have : es = [] := g2.nil_iff.mp e0
        subst this
        rw [List.append_nil] at h
        exact k _ h _ F H ex rx
      · obtain ⟨y1, y2⟩ := newTup (ds := ds ++ es) ex ht (h2.append g2) (by rw [List.length_append]; exact hz)
        exact k _ h _ _ _ y1 y2
    | _ => exact False.elim h
  | list ds =>
    cases e with
    | list es =>
      obtain ⟨p, xs, rfl, h1, h2, h3⟩ := rx.lstI
      obtain ⟨q, ys, rfl, g1, g2, g3⟩ := ry.lstI
      obtain ⟨hz, h⟩ := h
      have l1 := h2.len
      have l2 := g2.len
      refine .inr (.inr (.inr ⟨p, q, xs, ys, rfl, rfl, ex.fh _ _ h1, ex.fh _ _ g1, by omega, fun t ht => ?_⟩))
      obtain ⟨y1, y2⟩ := newLst (ds := ds ++ es) ex ht (h2.append g2) (by rw [List.length_append]; exact hz)
      exact k _ h _ _ _ y1 y2
    | _ => exact False.elim h
  | _ => exact False.elim h
theorem de_add (ha : DE X c a ma) (hb : DE X c b mb) : DE X c (.BinOp a .Add b pos) (dOp addD ma mb) := de_op (op_add.or (op_add_str.or (op_catA.or op_cat))) sv_add ha hb

def subD : D2
  | .int i, .int j, Q => Q (.int (i - j))
  | _, _, _ => False
def mulD : D2
  | .int i, .int j, Q => CMulW i j ∧ Q (.int (i * j))
  | .tuple ds, .int k, Q => (ds ≠ [] ∧ 1 ≤ k ∧ k ≤ 1000 ∧ ds.length ≤ 1000) ∧ Q (.tuple (List.replicate k.toNat ds).flatten)
  | .list ds, .int k, Q => (-(2 ^ 63) ≤ k ∧ k < 2 ^ 63 ∧ ds.length * k.toNat ≤ sizeLine) ∧ Q (.list (List.replicate k.toNat ds).flatten)
  | _, _, _ => False
def CDivB (i j : Int) : Prop := j ≠ 0 ∧ j.natAbs.log2 < 9000
theorem op_fdivB : OpR X (binaryOp .FloorDiv) (rI CDivB fun i j => .int (i.fdiv j)) := opI fun _ _ _ _ _ _ _ hc q => floordiv_int hc.1 q (.inl (PyProof.noPylong_of_log2 hc.2))
def fdivD : D2
  | .int i, .int j, Q => CDivB i j ∧ Q (.int (i.fdiv j))
  | _, _, _ => False
def modD : D2
  | .int i, .int j, Q => j ≠ 0 ∧ Q (.int (i.fmod j))
  | _, _, _ => False
def powD : D2
  | .int i, .int j, Q => CPow i j ∧ Q (.int (i ^ j.toNat))
  | _, _, _ => False
def shlD : D2
  | .int i, .int j, Q => CPow i j ∧ Q (.int (i * 2 ^ j.toNat))
  | _, _, _ => False
def shrD : D2
  | .int i, .int j, Q => 0 ≤ j ∧ Q (.int (i / 2 ^ j.toNat))
  | _, _, _ => False
def andD : D2
  | .int i, .int j, Q => Q (.int (Builtin.bitAnd i j))
  | _, _, _ => False
def ltD : D2
  | .int i, .int j, Q => Q (.bool (decide (i < j)))
  | _, _, _ => False
def leD : D2
  | .int i, .int j, Q => Q (.bool (decide (i ≤ j)))
  | _, _, _ => False
def gtD : D2
  | .int i, .int j, Q => Q (.bool (decide (j < i)))
  | _, _, _ => False
def geD : D2
  | .int i, .int j, Q => Q (.bool (decide (j ≤ i)))
  | _, _, _ => False
theorem sv_i0 {K : PySem.W.Frag} {g : Int → Int → V} {g' : Int → Int → D} (hg : ∀ F i j, Rep K F (g i j) (g' i j)) {d2 : D2} (hd : ∀ i j R, d2 (.int i) (.int j) R → R (g' i j)) (hn : ∀ d e R, d2 d e R → ∃ i j, d = .int i ∧ e = .int j) : Serves K c (rI0 g) d2 := by
  intro F H x y d e R Q ex rx ry h k
  obtain ⟨i, j, rfl, rfl⟩ := hn d e R h
  cases rx
  cases ry
  exact ⟨i, j, rfl, rfl, k _ (hd i j R h) _ F H ex (hg F i j)⟩
theorem sv_i {K : PySem.W.Frag} {C : Int → Int → Prop} {g : Int → Int → V} {g' : Int → Int → D} (hg : ∀ F i j, Rep K F (g i j) (g' i j)) {d2 : D2} (hd : ∀ i j R, d2 (.int i) (.int j) R → C i j ∧ R (g' i j)) (hn : ∀ d e R, d2 d e R → ∃ i j, d = .int i ∧ e = .int j) : Serves K c (rI C g) d2 := by
  intro F H x y d e R Q ex rx ry h k
  obtain ⟨i, j, rfl, rfl⟩ := hn d e R h
  cases rx
  cases ry
  exact ⟨i, j, rfl, rfl, (hd i j R h).1, k _ (hd i j R h).2 _ F H ex (hg F i j)⟩
theorem two_ints {d2 : D2} (h1 : ∀ d e R, d2 d e R → ∃ i j, d = .int i ∧ e = .int j) {d e : D} {R : D → Prop} (h : d2 d e R) : ∃ i j, d = .int i ∧ e = .int j := h1 d e R h
theorem de_sub (ha : DE X c a ma) (hb : DE X c b mb) : DE X c (.BinOp a .Sub b pos) (dOp subD ma mb) :=
  de_op op_sub (sv_i0 (g' := fun i j => .int (i - j)) (fun _ _ _ => .int _) (fun _ _ _ h => h) (fun d e R h => by cases d <;> cases e <;> first | exact ⟨_, _, rfl, rfl⟩ | exact False.elim h)) ha hb
theorem de_fdiv (ha : DE X c a ma) (hb : DE X c b mb) : DE X c (.BinOp a .FloorDiv b pos) (dOp fdivD ma mb) :=
  de_op op_fdivB (sv_i (g' := fun i j => .int (i.fdiv j)) (fun _ _ _ => .int _) (fun _ _ _ h => h) (fun d e R h => by cases d <;> cases e <;> first | exact ⟨_, _, rfl, rfl⟩ | exact False.elim h)) ha hb
theorem de_mod (ha : DE X c a ma) (hb : DE X c b mb) : DE X c (.BinOp a .Mod b pos) (dOp modD ma mb) :=
  de_op op_modN (sv_i (g' := fun i j => .int (i.fmod j)) (fun _ _ _ => .int _) (fun _ _ _ h => h) (fun d e R h => by cases d <;> cases e <;> first | exact ⟨_, _, rfl, rfl⟩ | exact False.elim h)) ha hb
theorem de_pow (ha : DE X c a ma) (hb : DE X c b mb) : DE X c (.BinOp a .Pow b pos) (dOp powD ma mb) :=
  de_op op_pow (sv_i (g' := fun i j => .int (i ^ j.toNat)) (fun _ _ _ => .int _) (fun _ _ _ h => h) (fun d e R h => by cases d <;> cases e <;> first | exact ⟨_, _, rfl, rfl⟩ | exact False.elim h)) ha hb
theorem de_shl (ha : DE X c a ma) (hb : DE X c b mb) : DE X c (.BinOp a .LShift b pos) (dOp shlD ma mb) :=
  de_op op_shl (sv_i (g' := fun i j => .int (i * 2 ^ j.toNat)) (fun _ _ _ => .int _) (fun _ _ _ h => h) (fun d e R h => by cases d <;> cases e <;> first | exact ⟨_, _, rfl, rfl⟩ | exact False.elim h)) ha hb
theorem de_shr (ha : DE X c a ma) (hb : DE X c b mb) : DE X c (.BinOp a .RShift b pos) (dOp shrD ma mb) :=
  de_op op_shr (sv_i (g' := fun i j => .int (i / 2 ^ j.toNat)) (fun _ _ _ => .int _) (fun _ _ _ h => h) (fun d e R h => by cases d <;> cases e <;> first | exact ⟨_, _, rfl, rfl⟩ | exact False.elim h)) ha hb
theorem de_band (ha : DE X c a ma) (hb : DE X c b mb) : DE X c (.BinOp a .BitAnd b pos) (dOp andD ma mb) :=
  de_op op_and (sv_i0 (g' := fun i j => .int (Builtin.bitAnd i j)) (fun _ _ _ => .int _) (fun _ _ _ h => h) (fun d e R h => by cases d <;> cases e <;> first | exact ⟨_, _, rfl, rfl⟩ | exact False.elim h)) ha hb
theorem sv_lt {K : PySem.W.Frag} : Serves K c (rI0 fun i j => .bl (decide (i < j))) ltD := sv_i0 (g' := fun i j => .bool (decide (i < j))) (fun _ _ _ => .bl _) (fun _ _ _ h => h) (fun d e R h => by cases d <;> cases e <;> first | exact ⟨_, _, rfl, rfl⟩ | exact False.elim h)
theorem sv_le {K : PySem.W.Frag} : Serves K c (rI0 fun i j => .bl (decide (i ≤ j))) leD := sv_i0 (g' := fun i j => .bool (decide (i ≤ j))) (fun _ _ _ => .bl _) (fun _ _ _ h => h) (fun d e R h => by cases d <;> cases e <;> first | exact ⟨_, _, rfl, rfl⟩ | exact False.elim h)
theorem sv_gt {K : PySem.W.Frag} : Serves K c (rI0 fun i j => .bl (decide (j < i))) gtD := sv_i0 (g' := fun i j => .bool (decide (j < i))) (fun _ _ _ => .bl _) (fun _ _ _ h => h) (fun d e R h => by cases d <;> cases e <;> first | exact ⟨_, _, rfl, rfl⟩ | exact False.elim h)
theorem sv_ge {K : PySem.W.Frag} : Serves K c (rI0 fun i j => .bl (decide (j ≤ i))) geD := sv_i0 (g' := fun i j => .bool (decide (j ≤ i))) (fun _ _ _ => .bl _) (fun _ _ _ h => h) (fun d e R h => by cases d <;> cases e <;> first | exact ⟨_, _, rfl, rfl⟩ | exact False.elim h)
theorem de_lt (ha : DE X c a ma) (hb : DE X c b mb) : DE X c (.Compare a [.Lt] [b] pos) (dOp ltD ma mb) := de_cmp op_lt sv_lt ha hb (nomark _)
theorem de_le (ha : DE X c a ma) (hb : DE X c b mb) : DE X c (.Compare a [.LtE] [b] pos) (dOp leD ma mb) := de_cmp op_le sv_le ha hb (nomark _)
theorem de_gt (ha : DE X c a ma) (hb : DE X c b mb) : DE X c (.Compare a [.Gt] [b] pos) (dOp gtD ma mb) := de_cmp op_gt sv_gt ha hb (nomark _)
theorem de_ge (ha : DE X c a ma) (hb : DE X c b mb) : DE X c (.Compare a [.GtE] [b] pos) (dOp geD ma mb) := de_cmp op_ge sv_ge ha hb (nomark _)
theorem dt_lt (ha : DE X c a ma) (hb : DE X c b mb) : DT X c (.Compare a [.Lt] [b] pos) (dT (dOp ltD ma mb)) := dt_cmp op_lt sv_lt ha hb (nomark _)
theorem dt_le (ha : DE X c a ma) (hb : DE X c b mb) : DT X c (.Compare a [.LtE] [b] pos) (dT (dOp leD ma mb)) := dt_cmp op_le sv_le ha hb (nomark _)
theorem dt_gt (ha : DE X c a ma) (hb : DE X c b mb) : DT X c (.Compare a [.Gt] [b] pos) (dT (dOp gtD ma mb)) := dt_cmp op_gt sv_gt ha hb (nomark _)
theorem dt_ge (ha : DE X c a ma) (hb : DE X c b mb) : DT X c (.Compare a [.GtE] [b] pos) (dT (dOp geD ma mb)) := dt_cmp op_ge sv_ge ha hb (nomark _)
theorem Reps.replicate {K : PySem.W.Frag} {F : Hp} {ds : List D} {vs : List V} (h : Reps K F vs ds) : ∀ n : Nat, Reps K F (List.replicate n vs).flatten (List.replicate n ds).flatten
  | 0 => .nil
  | n + 1 => by
    rw [List.replicate_succ, List.replicate_succ, List.flatten_cons, List.flatten_cons]
    exact h.append (Reps.replicate h n)
theorem rep_flat_len {α : Type} (xs : List α) (n : Nat) : (List.replicate n xs).flatten.length = n * xs.length := by
  induction n with
  | zero => simp
  | succ n ih => rw [List.replicate_succ, List.flatten_cons, List.length_append, ih, Nat.succ_mul, Nat.add_comm]
section
open PyProof.Rows
set_option maxHeartbeats 4000000 in
theorem tuple_mulW1 (l : Addr) (items : Array Value) (n : Nat) (dd : Option Addr) (sl : Array (Option Value)) (x : Int) (u : Tok) (c0 : (decide (x < -(2 ^ 63)) || decide (x ≥ 2 ^ 63)) = false) (c1 : (items.isEmpty || x == 1) = true) :
    Meets (Builtin.«tuple.__mul__» ⟨[.ref l, .int x u], []⟩) (fun _ R s => s.heap.get? l = some { cls := .type "tuple", dict := dd, data := .seq items n, slots := sl } ∧ R (.ok (.ret (Value.ref l))) { s with heap := s.heap, toks := s.toks }) :=
  .of_wp fun prog w A R s h => by
    obtain ⟨hp, g, d, tk, os⟩ := s
    obtain ⟨hl, h⟩ := h
    have f1 := AutoSeq1.idx_int
    have f2 := AutoSeq1.sub_tuple_tuple
    wp_walk using wpAny_loadPart' hl
    repeat (first
      | (refine wpAny_ite_false (decide_eq_false (by rw [c0]; exact Bool.false_ne_true)) ?_; wp_walk using wpAny_loadPart' hl)
      | (refine wpAny_ite_true (decide_eq_true c1) ?_; wp_walk using wpAny_loadPart' hl))
    exact ⟨_, rfl, h⟩
def rRep1 (K : PySem.W.Frag) : R2 := fun x y H Q => ∃ l xs, x = .ref l ∧ y = .int 1 ∧ SqT K H l xs ∧ Q (.ref l) H
set_option maxHeartbeats 4000000 in
theorem op_rep1 {X : Cx} : OpR X (binaryOp .Mult) (rRep1 X.K) := by
  intro pins s σ H x y v u Q I rx ry h
  obtain ⟨l, xs, rfl, rfl, hT, q⟩ := h
  cases rx
  obtain ⟨t, rfl⟩ := ry
  obtain ⟨its, r, ⟨⟨cls, dd, data, sl⟩, ho, hc, n, hd⟩, hs⟩ := I.tuple hT
  simp only at hc hd
  subst hc hd
  refine wpAny_binaryOp_repeat_ref (T := "tuple") (U := "int") (by decide) ⟨_, ho, rfl⟩ (fun s' => typeIs_int s' 1 t) noFill_tuple_mul F.fills_int_mul F.slot_int_rmul repeat_tuple F.slot_int_index.lookup
    (call_meets F.slot_int_rmul (typeIs_int s 1 t) F.entry_int_rmul (F.args_int_rmul_2 _ _) (int_rmul_tuple 1 t l its.toArray n dd sl)
      ⟨ho, rfl, ⟨_, ho, rfl⟩, call_meets F.slot_tuple_mul ⟨_, ho, rfl⟩ F.entry_tuple_mul (F.args_tuple_mul_2 _ _) (tuple_mulW1 l its.toArray n dd sl 1 t (by decide) (by simp)) ⟨ho, ?_⟩⟩)
  exact ⟨.ref l, H, I, rfl, q⟩
end
theorem sv_mul {K : PySem.W.Frag} : Serves K c (fun x y H Q => rI CMulW (fun i j => .int (i * j)) x y H Q ∨ (rRepT K x y H Q ∨ (rRep1 K x y H Q ∨ rRep x y H Q))) mulD := by
  intro F H x y d e R Q ex rx ry h k
  cases d with
  | int i =>
    cases e with
    | int j => cases rx; cases ry; exact .inl ⟨i, j, rfl, rfl, h.1, k _ h.2 _ F H ex (.int _)⟩
    | _ => exact False.elim h
  | tuple ds =>
    cases e with
    | int n =>
      obtain ⟨p, xs, rfl, h1, h2, h3⟩ := rx.tupI
      cases ry
      obtain ⟨⟨n1, n2, n3, n4⟩, h⟩ := h
      by_cases e1 : n = 1
      · subst e1
        have e2 : (List.replicate (1 : Int).toNat ds).flatten = ds := by simp
        rw [e2] at h
        exact .inr (.inr (.inl ⟨p, xs, rfl, rfl, sqT_mono ex.fh h1, k _ h _ F H ex rx⟩))
      refine .inr (.inl ⟨p, n, xs, rfl, rfl, sqT_mono ex.fh h1, fun z => n1 (h2.nil_iff.mp z), by omega, n3, by rw [h2.len]; exact n4, fun t ht => ?_⟩)
      have hz : (List.replicate n.toNat ds).flatten.length ≤ sizeLine := by
        rw [rep_flat_len, sizeLine_eq]
        have q1 : n.toNat ≤ 1000 := by omega
        have := Nat.mul_le_mul q1 n4
        omega
      obtain ⟨y1, y2⟩ := newTup (ds := (List.replicate n.toNat ds).flatten) ex ht (h2.replicate n.toNat) hz
      exact k _ h _ _ _ y1 y2
    | _ => exact False.elim h
  | list ds =>
    cases e with
    | int n =>
      obtain ⟨p, xs, rfl, h1, h2, h3⟩ := rx.lstI
      cases ry
      obtain ⟨⟨n1, n2, n3⟩, h⟩ := h
      refine .inr (.inr (.inr ⟨p, n, xs, rfl, rfl, ex.fh _ _ h1, n1, n2, by rw [h2.len]; exact n3, fun t ht => ?_⟩))
      have hz : (List.replicate n.toNat ds).flatten.length ≤ sizeLine := by
        rw [rep_flat_len, Nat.mul_comm]
        exact n3
      obtain ⟨y1, y2⟩ := newLst (ds := (List.replicate n.toNat ds).flatten) ex ht (h2.replicate n.toNat) hz
      exact k _ h _ _ _ y1 y2
    | _ => exact False.elim h
  | _ => exact False.elim h
theorem de_mul (ha : DE X c a ma) (hb : DE X c b mb) : DE X c (.BinOp a .Mult b pos) (dOp mulD ma mb) := de_op (op_mulW.or (op_repT.or (op_rep1.or op_rep))) sv_mul ha hb

def eqD : D2 := fun d e Q => (SeqAt.shaped d = true ∧ SeqAt.shaped e = true) ∧ Q (.bool (PyData.eqv d e))
def neD : D2 := fun d e Q => (SeqAt.shaped d = true ∧ SeqAt.shaped e = true) ∧ Q (.bool (!PyData.eqv d e))
theorem sv_eq {K : PySem.W.Frag} : Serves K c (rEqD K) eqD := fun F H x y d e R Q ex rx ry h k => ⟨d, e, Rep.dp ex.fh d x rx, Rep.dp ex.fh e y ry, h.1.1, h.1.2, k _ h.2 _ F H ex (.bl _)⟩
theorem sv_ne {K : PySem.W.Frag} : Serves K c (rNeD K) neD := fun F H x y d e R Q ex rx ry h k => ⟨d, e, Rep.dp ex.fh d x rx, Rep.dp ex.fh e y ry, h.1.1, h.1.2, k _ h.2 _ F H ex (.bl _)⟩
theorem de_eq (hu : X.A.units + 64 < cLine) (ha : DE X c a ma) (hb : DE X c b mb) : DE X c (.Compare a [.Eq] [b] pos) (dOp eqD ma mb) := de_cmp (op_eqD hu) sv_eq ha hb (nomark _)
theorem de_ne (hu : X.A.units + 64 < cLine) (ha : DE X c a ma) (hb : DE X c b mb) : DE X c (.Compare a [.NotEq] [b] pos) (dOp neD ma mb) := de_cmp (op_neD hu) sv_ne ha hb (nomark _)
theorem dt_eq (hu : X.A.units + 64 < cLine) (ha : DE X c a ma) (hb : DE X c b mb) : DT X c (.Compare a [.Eq] [b] pos) (dT (dOp eqD ma mb)) := dt_cmp (op_eqD hu) sv_eq ha hb (nomark _)
theorem dt_ne (hu : X.A.units + 64 < cLine) (ha : DE X c a ma) (hb : DE X c b mb) : DT X c (.Compare a [.NotEq] [b] pos) (dT (dOp neD ma mb)) := dt_cmp (op_neD hu) sv_ne ha hb (nomark _)
def isNon : D → Bool
  | .none => true
  | _ => false
theorem Rep.non_iff {K : PySem.W.Frag} {F : Hp} {v : V} {d : D} (h : Rep K F v d) : decide (v = .non) = isNon d := by cases h <;> simp [isNon]
def isD : D2 := fun d e Q => match e with | .none => Q (.bool (isNon d)) | _ => False
def isNotD : D2 := fun d e Q => match e with | .none => Q (.bool (!isNon d)) | _ => False
theorem sv_is {K : PySem.W.Frag} : Serves K c (fun x y H Q => y = .non ∧ Q (.bl (decide (x = .non))) H) isD := fun F H x y d e R Q ex rx ry h k => by
  cases e with
  | none => cases ry; exact ⟨rfl, by rw [rx.non_iff]; exact k _ h _ F H ex (.bl _)⟩
  | _ => exact False.elim h
theorem sv_isNot {K : PySem.W.Frag} : Serves K c (fun x y H Q => y = .non ∧ Q (.bl (!decide (x = .non))) H) isNotD := fun F H x y d e R Q ex rx ry h k => by
  cases e with
  | none => cases ry; exact ⟨rfl, by rw [rx.non_iff]; exact k _ h _ F H ex (.bl _)⟩
  | _ => exact False.elim h
theorem de_is (ha : DE X c a ma) (hb : DE X c b mb) : DE X c (.Compare a [.Is] [b] pos) (dOp isD ma mb) := de_cmp op_isN sv_is ha hb (nomark _)
theorem dt_is (ha : DE X c a ma) (hb : DE X c b mb) : DT X c (.Compare a [.Is] [b] pos) (dT (dOp isD ma mb)) := dt_cmp op_isN sv_is ha hb (nomark _)
theorem de_isNot (ha : DE X c a ma) (hb : DE X c b mb) : DE X c (.Compare a [.IsNot] [b] pos) (dOp isNotD ma mb) := de_cmp op_notN sv_isNot ha hb (nomark _)
theorem dt_isNot (ha : DE X c a ma) (hb : DE X c b mb) : DT X c (.Compare a [.IsNot] [b] pos) (dT (dOp isNotD ma mb)) := dt_cmp op_notN sv_isNot ha hb (nomark _)
def flatD : D → Bool
  | .none => true
  | .bool _ => true
  | .int _ => true
  | .str _ => true
  | _ => false
theorem Rep.flat {K : PySem.W.Frag} {F : Hp} {v : V} {d : D} (h : Rep K F v d) : flatV v = flatD d := by cases h <;> rfl
theorem Rep.eqV {K : PySem.W.Frag} {F : Hp} {v u : V} {d e : D} (h : Rep K F v d) (g : Rep K F u e) (f1 : flatD d = true) (f2 : flatD e = true) : L2.eqV v u = PyData.eqv d e := by
  cases h <;> cases g <;> first | rfl | (cases f1) | (cases f2)
theorem Reps.allFlat {K : PySem.W.Frag} {F : Hp} : ∀ {ds : List D} {vs : List V}, Reps K F vs ds → vs.all flatV = ds.all flatD
  | [], _, h => by cases h; rfl
  | d :: ds, _, h => by
    cases h with
    | cons h1 h2 => simp [h1.flat, Reps.allFlat h2]
def memD (d : D) (ds : List D) : Bool := ds.any fun y => PyData.eqv y d
theorem Reps.inV {K : PySem.W.Frag} {F : Hp} {u : V} {d : D} (g : Rep K F u d) (f : flatD d = true) : ∀ {ds : List D} {vs : List V}, Reps K F vs ds → ds.all flatD = true → L2.inV u vs = memD d ds
  | [], _, h, _ => by cases h; rfl
  | e :: ds, _, h, hf => by
    cases h with
    | cons h1 h2 =>
      rw [List.all_cons, Bool.and_eq_true] at hf
      have q := Reps.inV g f h2 hf.2
      unfold L2.inV memD at q ⊢
      rw [List.any_cons, List.any_cons, q, h1.eqV g hf.1 f]
def itemsD : D → Option (List D)
  | .list ds => some ds
  | .tuple ds => some ds
  | _ => none
theorem Rep.seq {K : PySem.W.Frag} {F : Hp} {v : V} {d : D} {ds : List D} (h : Rep K F v d) (e : itemsD d = some ds) : ∃ a xs, v = .ref a ∧ (SqL K F a xs ∨ SqT K F a xs) ∧ Reps K F xs ds ∧ ds.length ≤ sizeLine := by
  cases d with
  | list es =>
    cases e
    obtain ⟨a, xs, rfl, h1, h2, h3⟩ := h.lstI
    exact ⟨a, xs, rfl, .inl (SqL.of h1), h2, h3⟩
  | tuple es =>
    cases e
    obtain ⟨a, xs, rfl, h1, h2, h3⟩ := h.tupI
    exact ⟨a, xs, rfl, .inr h1, h2, h3⟩
  | _ => cases e
/-- x in xs: flat items of a list or tuple; a text in a text -/
def inD (neg : Bool) : D2 := fun d e Q => match itemsD e with
  | some ds => (flatD d = true ∧ ds.all flatD = true) ∧ Q (.bool (if neg then !memD d ds else memD d ds))
  | none => match d, e with
    | .str i, .str j => Q (.bool (if neg then !(!(Builtin.Str.occurrences j i 0 j.length 1).isEmpty) else (!(Builtin.Str.occurrences j i 0 j.length 1).isEmpty)))
    | _, _ => False
theorem sv_in {K : PySem.W.Frag} {neg : Bool} : Serves K c (fun x y H Q => rIn K neg x y H Q ∨ ∃ i j, x = .str i ∧ y = .str j ∧ Q (.bl (if neg then !(!(Builtin.Str.occurrences j i 0 j.length 1).isEmpty) else (!(Builtin.Str.occurrences j i 0 j.length 1).isEmpty))) H) (inD neg) := by
  intro F H x y d e R Q ex rx ry h k
  unfold inD at h
  split at h
  · rename_i ds es
    obtain ⟨p, ys, rfl, h1, h2, h3⟩ := ry.seq es
    obtain ⟨⟨f1, f2⟩, h⟩ := h
    refine .inl ⟨p, ys, rfl, h1.imp (sqL_mono ex.fh) (sqT_mono ex.fh), by rw [rx.flat]; exact f1, by rw [h2.allFlat]; exact f2, ?_⟩
    rw [h2.inV rx f1 f2]
    exact k _ h _ F H ex (.bl _)
  · split at h
    · cases rx; cases ry
      exact .inr ⟨_, _, rfl, rfl, k _ h _ F H ex (.bl _)⟩
    · exact False.elim h
theorem op_inA : OpR X (compareOp .In) (fun x y H Q => rIn X.K false x y H Q ∨ ∃ i j, x = .str i ∧ y = .str j ∧ Q (.bl (if false = true then !(!(Builtin.Str.occurrences j i 0 j.length 1).isEmpty) else (!(Builtin.Str.occurrences j i 0 j.length 1).isEmpty))) H) := op_in_seq.or op_in_str
theorem op_notInA : OpR X (compareOp .NotIn) (fun x y H Q => rIn X.K true x y H Q ∨ ∃ i j, x = .str i ∧ y = .str j ∧ Q (.bl (if true = true then !(!(Builtin.Str.occurrences j i 0 j.length 1).isEmpty) else (!(Builtin.Str.occurrences j i 0 j.length 1).isEmpty))) H) := op_notIn_seq.or op_notin_str
theorem de_in (ha : DE X c a ma) (hb : DE X c b mb) (hm : behindInMarks .In b = false := by rfl) : DE X c (.Compare a [.In] [b] pos) (dOp (inD false) ma mb) := de_cmp op_inA sv_in ha hb hm
theorem dt_in (ha : DE X c a ma) (hb : DE X c b mb) (hm : behindInMarks .In b = false := by rfl) : DT X c (.Compare a [.In] [b] pos) (dT (dOp (inD false) ma mb)) := dt_cmp op_inA sv_in ha hb hm
theorem de_notIn (ha : DE X c a ma) (hb : DE X c b mb) (hm : behindInMarks .NotIn b = false := by rfl) : DE X c (.Compare a [.NotIn] [b] pos) (dOp (inD true) ma mb) := de_cmp op_notInA sv_in ha hb hm
theorem dt_notIn (ha : DE X c a ma) (hb : DE X c b mb) (hm : behindInMarks .NotIn b = false := by rfl) : DT X c (.Compare a [.NotIn] [b] pos) (dT (dOp (inD true) ma mb)) := dt_cmp op_notInA sv_in ha hb hm

def negD (d : D) (Q : D → Prop) : Prop := match d with | .int i => Q (.int (-i)) | _ => False
def dNeg (m : DTE) (en : En) (Q : D → Prop) : Prop := m en fun d => negD d Q
theorem de_neg (ha : DE X c a ma) : DE X c (.UnaryOp .USub a pos) (dNeg ma) := by
  refine ⟨PE.imp (pe_un un_neg ha.run) fun σ H Q h => ?_⟩
  obtain ⟨F, en, R, r, h, k⟩ := h
  refine ⟨F, en, _, r, h, fun d hd v F' H' x rv => ?_⟩
  cases d with
  | int i => cases rv; exact ⟨i, rfl, k _ hd _ F' H' x (.int _)⟩
  | _ => exact False.elim hd
def notD (d : D) (Q : D → Prop) : Prop := asB d fun b => Q (.bool (!b))
def dNot (m : DTE) (en : En) (Q : D → Prop) : Prop := m en fun d => notD d Q
theorem de_not (ha : DE X c a ma) : DE X c (.UnaryOp .Not a pos) (dNot ma) := by
  refine ⟨PE.imp (pe_not ha.run) fun σ H Q h => ?_⟩
  obtain ⟨F, en, R, r, h, k⟩ := h
  refine ⟨F, en, _, r, h, fun d hd v F' H' x rv => ?_⟩
  cases d with
  | bool i => cases rv; exact ⟨i, rfl, k _ hd _ F' H' x (.bl _)⟩
  | _ => exact False.elim hd
def dTNot (m : DTT) (en : En) (Q : Bool → Prop) : Prop := m en fun b => Q (!b)
theorem dt_not (ha : DT X c a mt) : DT X c (.UnaryOp .Not a pos) (dTNot mt) := by
  refine ⟨PT.imp (pt_not ha.run) fun σ H Q h => ?_⟩
  obtain ⟨F, en, R, r, h, k⟩ := h
  exact ⟨F, en, _, r, h, fun d hd F' H' x => k _ hd F' H' x⟩
def dAnd (ma mb : DTE) (en : En) (Q : D → Prop) : Prop := ma en fun d => asB d fun b => Cnd b (mb en Q) (Q (.bool false))
def dOr (ma mb : DTE) (en : En) (Q : D → Prop) : Prop := ma en fun d => asB d fun b => Cnd b (Q (.bool true)) (mb en Q)
variable {rest : List Expr}
theorem de_one {op} (h : DE X c a ma) : DE X c (.BoolOp op [a] pos) ma := ⟨pe_one h.run⟩
theorem de_and (ha : DE X c a ma) (hb : DE X c (.BoolOp .And (b :: rest) pos) mb) : DE X c (.BoolOp .And (a :: b :: rest) pos) (dAnd ma mb) := by
  refine ⟨PE.imp (pe_and ha.run hb.run) fun σ H Q h => ?_⟩
  obtain ⟨F, en, R, r, h, k⟩ := h
  refine ⟨F, en, _, r, h, fun d hd v F' H' x rv => ?_⟩
  cases d with
  | bool i =>
    cases rv
    refine ⟨i, rfl, ?_⟩
    cases i with
    | true => exact ⟨F', en, R, r.grow x, hd, fun z hz v' F2 H2 x2 rz => k z hz v' F2 H2 (x.trans x2) rz⟩
    | false => exact k _ hd _ F' H' x (.bl _)
  | _ => exact False.elim hd
theorem de_or (ha : DE X c a ma) (hb : DE X c (.BoolOp .Or (b :: rest) pos) mb) : DE X c (.BoolOp .Or (a :: b :: rest) pos) (dOr ma mb) := by
  refine ⟨PE.imp (pe_or ha.run hb.run) fun σ H Q h => ?_⟩
  obtain ⟨F, en, R, r, h, k⟩ := h
  refine ⟨F, en, _, r, h, fun d hd v F' H' x rv => ?_⟩
  cases d with
  | bool i =>
    cases rv
    refine ⟨i, rfl, ?_⟩
    cases i with
    | false => exact ⟨F', en, R, r.grow x, hd, fun z hz v' F2 H2 x2 rz => k z hz v' F2 H2 (x.trans x2) rz⟩
    | true => exact k _ hd _ F' H' x (.bl _)
  | _ => exact False.elim hd
structure DW (X : Cx) (c : Ct) (e : Expr) (m : DTT) : Prop where
  run : PW X e (liftT X.K c m)
theorem PW.imp {X : Cx} {e : Expr} {t t' : TT} (h : PW X e t) (k : ∀ σ H Q, t' σ H Q → t σ H Q) : PW X e t' := ⟨fun wh pins s σ H Q I q => h.run wh pins s σ H Q I (k _ _ _ q)⟩
theorem DW.dt (h : DW X c e mt) : DT X c e mt := ⟨h.run.pt⟩
def dTAnd (ma mb : DTT) (en : En) (Q : Bool → Prop) : Prop := ma en fun b => Cnd b (mb en Q) (Q false)
def dTOr (ma mb : DTT) (en : En) (Q : Bool → Prop) : Prop := ma en fun b => Cnd b (Q true) (mb en Q)
theorem dw_and1 (ha : DT X c a mt) : DW X c (.BoolOp .And [a] pos) mt := ⟨pw_and1 ha.run⟩
theorem dw_or1 (ha : DT X c a mt) : DW X c (.BoolOp .Or [a] pos) mt := ⟨pw_or1 ha.run⟩
theorem dw_and (ha : DT X c a mt) (hb : DW X c (.BoolOp .And (b :: rest) pos) mu) : DW X c (.BoolOp .And (a :: b :: rest) pos) (dTAnd mt mu) := by
  refine ⟨PW.imp (pw_and ha.run hb.run) fun σ H Q h => ?_⟩
  obtain ⟨F, en, R, r, h, k⟩ := h
  refine ⟨F, en, _, r, h, fun i hd F' H' x => ?_⟩
  cases i with
  | true => exact ⟨F', en, R, r.grow x, hd, fun z hz F2 H2 x2 => k z hz F2 H2 (x.trans x2)⟩
  | false => exact k _ hd F' H' x
theorem dw_or (ha : DT X c a mt) (hb : DW X c (.BoolOp .Or (b :: rest) pos) mu) : DW X c (.BoolOp .Or (a :: b :: rest) pos) (dTOr mt mu) := by
  refine ⟨PW.imp (pw_or ha.run hb.run) fun σ H Q h => ?_⟩
  obtain ⟨F, en, R, r, h, k⟩ := h
  refine ⟨F, en, _, r, h, fun i hd F' H' x => ?_⟩
  cases i with
  | false => exact ⟨F', en, R, r.grow x, hd, fun z hz F2 H2 x2 => k z hz F2 H2 (x.trans x2)⟩
  | true => exact k _ hd F' H' x
def dIf (mt : DTT) (ma mb : DTE) (en : En) (Q : D → Prop) : Prop := mt en fun b => Cnd b (ma en Q) (mb en Q)
theorem de_if {t : Expr} (ht : DT X c t mt) (ha : DE X c a ma) (hb : DE X c b mb) : DE X c (.IfExp t a b pos) (dIf mt ma mb) := by
  refine ⟨PE.imp (pe_ifExp ht.run ha.run hb.run) fun σ H Q h => ?_⟩
  obtain ⟨F, en, R, r, h, k⟩ := h
  refine ⟨F, en, _, r, h, fun i hd F' H' x => ?_⟩
  cases i with
  | false => exact ⟨F', en, R, r.grow x, hd, fun z hz v F2 H2 x2 rz => k z hz v F2 H2 (x.trans x2) rz⟩
  | true => exact ⟨F', en, R, r.grow x, hd, fun z hz v F2 H2 x2 rz => k z hz v F2 H2 (x.trans x2) rz⟩
/-- two comparisons in a chain -/
def dCh (d2 d3 : D2) (ma mb mc : DTE) (en : En) (Q : D → Prop) : Prop := ma en fun x => mb en fun y => d2 x y fun z => asB z fun b => Cnd b (mc en fun w => d3 y w Q) (Q (.bool false))
theorem lift_ch {K : PySem.W.Frag} {r2 r3 : R2} {d2 d3 : D2} {mc : DTE} (sv : Serves K c r2 d2) (sv' : Serves K c r3 d3) {σ : St} {H : Hp} {Q : VK} (h : liftE K c (dCh d2 d3 ma mb mc) σ H Q) : tChain r2 r3 (liftE K c ma) (liftE K c mb) (liftE K c mc) σ H Q := by
  obtain ⟨F, en, R, r, h, k⟩ := h
  refine ⟨F, en, _, r, h, fun d hd v F1 H1 x1 rv => ?_⟩
  refine ⟨F1, en, _, r.grow x1, hd, fun e he u F2 H2 x2 ru => ?_⟩
  refine sv F2 H2 v u d e _ _ x2.self (Rep.mono x2.ff _ _ rv) ru he fun z hz v' F3 H3 x3 rz => ?_
  cases z with
  | bool i =>
    cases rz
    refine ⟨i, rfl, ?_⟩
    cases i with
    | true =>
      refine ⟨F3, en, _, (r.grow (x1.trans x2)).grow x3, hz, fun w hw v4 F4 H4 x4 r4 => ?_⟩
      exact sv' F4 H4 u v4 e w R Q x4.self (Rep.mono x4.ff _ _ (Rep.mono x3.ff _ _ ru)) r4 hw fun z hz v5 F5 H5 x5 r5 => k z hz v5 F5 H5 (x1.trans (x2.trans (x3.trans (x4.trans x5)))) r5
    | false => exact k _ hz _ F3 H3 (x1.trans (x2.trans x3)) (.bl _)
  | _ => exact False.elim hz
variable {cc : Expr} {mc : DTE}
theorem de_ch {op op' : CmpOp} {r2 r3 : R2} {d2 d3 : D2} (ho : OpR X (compareOp op) r2) (ho' : OpR X (compareOp op') r3) (sv : Serves X.K c r2 d2) (sv' : Serves X.K c r3 d3) (ha : DE X c a ma) (hb : DE X c b mb) (hc : DE X c cc mc)
    (hm : lastMarks [op, op'] [b, cc] = false := by with_unfolding_all rfl) : DE X c (.Compare a [op, op'] [b, cc] pos) (dCh d2 d3 ma mb mc) :=
  ⟨PE.imp (pe_chain ho ho' ha.run hb.run hc.run hm) fun _ _ _ h => lift_ch sv sv' h⟩
theorem dt_ch {op op' : CmpOp} {r2 r3 : R2} {d2 d3 : D2} (ho : OpR X (compareOp op) r2) (ho' : OpR X (compareOp op') r3) (sv : Serves X.K c r2 d2) (sv' : Serves X.K c r3 d3) (ha : DE X c a ma) (hb : DE X c b mb) (hc : DE X c cc mc)
    (hm : lastMarks [op, op'] [b, cc] = false := by with_unfolding_all rfl) : DT X c (.Compare a [op, op'] [b, cc] pos) (dT (dCh d2 d3 ma mb mc)) :=
  ⟨PT.imp (pt_chain ho ho' ha.run hb.run hc.run hm) fun _ _ _ h => lift_ch sv sv' (lift_test h)⟩

def dNil (_x : En) (Q : List D → Prop) : Prop := Q []
def dCons (m : DTE) (ml : DTA) (en : En) (Q : List D → Prop) : Prop := m en fun d => ml en fun ds => Q (d :: ds)
theorem da_nil : DA X c [] dNil := ⟨PA.imp pa_nil fun σ H Q ⟨F, en, R, r, h, k⟩ => k _ h _ F H r.ext.self .nil rfl⟩
theorem da_cons (ha : DE X c e m) (hr : DA X c es ml) (hs : starEach (e :: es) X.env = (false, eval e X.env) :: starEach es X.env := by rfl) : DA X c (e :: es) (dCons m ml) := by
  refine ⟨PA.imp (pa_cons ha.run hr.run hs) fun σ H Q h => ?_⟩
  obtain ⟨F, en, R, r, h, k⟩ := h
  refine ⟨F, en, _, r, h, fun d hd v F1 H1 x1 rv => ?_⟩
  refine ⟨F1, en, _, r.grow x1, hd, fun ds he vs F2 H2 x2 ru hn => ?_⟩
  exact k _ he _ F2 H2 (x1.trans x2) (.cons (Rep.mono x2.ff _ _ rv) ru) (by rw [List.length_cons, hn, List.length_cons])
def dTup (ml : DTA) (en : En) (Q : D → Prop) : Prop := ml en fun ds => Q (.tuple ds)
def dLst (ml : DTA) (en : En) (Q : D → Prop) : Prop := ml en fun ds => Q (.list ds)
theorem de_tup {x1} (h : DA X c es ml) (hz : es.length ≤ sizeLine := by decide) : DE X c (.Tuple es x1 pos) (dTup ml) := by
  refine ⟨PE.imp (pe_tup h.run) fun σ H Q h => ?_⟩
  obtain ⟨F, en, R, r, h, k⟩ := h
  refine ⟨F, en, _, r, h, fun ds hd vs F1 H1 x1 rv hn => ?_⟩
  refine ⟨by rw [hn]; exact hz, fun p hp => ?_⟩
  obtain ⟨y1, y2⟩ := newTup (ds := ds) x1.self hp rv (by rw [← rv.len, hn]; exact hz)
  exact k _ hd _ _ _ (x1.trans y1) y2
theorem de_lst (h : DA X c es ml) (hz : es.length ≤ sizeLine := by decide) : DE X c (.List es pos) (dLst ml) := by
  refine ⟨PE.imp (pe_lst h.run) fun σ H Q h => ?_⟩
  obtain ⟨F, en, R, r, h, k⟩ := h
  refine ⟨F, en, _, r, h, fun ds hd vs F1 H1 x1 rv hn => ?_⟩
  refine ⟨by rw [hn]; exact hz, fun p hp => ?_⟩
  obtain ⟨y1, y2⟩ := newLst (ds := ds) x1.self hp rv (by rw [← rv.len, hn]; exact hz)
  exact k _ hd _ _ _ (x1.trans y1) y2
end
end Lay
namespace Lay
open PySem PySem.Spec L2
open PyProof.Rows hiding St

section
variable {X : Cx} {c : Ct} {e a b : Expr} {es : List Expr} {m ma mb : DTE} {ml : DTA} {mt mu : DTT} {pos : Pos}

def optD (o : Option D) (Q : D → Prop) : Prop := match o with | some d => Q d | none => False
def ixL (ds : List D) (e : D) (Q : D → Prop) : Prop := match e with | .int i => optD (atI ds i) Q | _ => False
def ixD : D2 := fun d e Q => match d with
  | .list ds => ixL ds e Q
  | .tuple ds => ixL ds e Q
  | .str z => match e with
    | .int i => z.length ≤ sizeLine ∧ (match atI z.cps.toList i with | some ch => Q (.str ⟨#[ch]⟩) | none => False)
    | _ => False
  | _ => False
theorem Reps.atI {K : PySem.W.Frag} {F : Hp} {ds : List D} {vs : List V} {i : Int} {d : D} (h : Reps K F vs ds) (e : L2.atI ds i = some d) : ∃ v, L2.atI vs i = some v ∧ Rep K F v d := by
  unfold L2.atI at e ⊢
  rw [h.len]
  cases q : ixN ds.length i with
  | none => rw [q] at e; cases e
  | some j =>
    rw [q] at e
    exact h.get e
theorem ixL_inv {ds : List D} {e : D} {Q : D → Prop} (h : ixL ds e Q) : ∃ i d, e = .int i ∧ atI ds i = some d ∧ Q d := by
  unfold ixL at h
  split at h
  · unfold optD at h
    split at h
    · exact ⟨_, _, rfl, by assumption, h⟩
    · exact h.elim
  · exact h.elim
theorem sv_ix {K : PySem.W.Frag} : Serves K c (rIx K) ixD := by
  intro F H x y d e R Q ex rx ry h k
  unfold ixD at h
  split at h
  · obtain ⟨i, z, rfl, h1, h2⟩ := ixL_inv h
    obtain ⟨p, xs, rfl, g1, g2, g3⟩ := rx.lstI
    obtain ⟨v, q1, q2⟩ := g2.atI h1
    cases ry
    exact .inl ⟨p, xs, i, v, rfl, rfl, SqL.of (ex.fh _ _ g1), q1, k _ h2 _ F H ex q2⟩
  · obtain ⟨i, z, rfl, h1, h2⟩ := ixL_inv h
    obtain ⟨p, xs, rfl, g1, g2, g3⟩ := rx.tupI
    obtain ⟨v, q1, q2⟩ := g2.atI h1
    cases ry
    exact .inr (.inl ⟨p, xs, i, v, rfl, rfl, sqT_mono ex.fh g1, q1, k _ h2 _ F H ex q2⟩)
  · split at h
    · obtain ⟨hz, h⟩ := h
      split at h
      · cases rx; cases ry
        exact .inr (.inr ⟨_, _, _, rfl, rfl, hz, by assumption, k _ h _ F H ex (.str _)⟩)
      · exact h.elim
    · exact h.elim
  · exact h.elim
theorem de_ix (ha : DE X c a ma) (hb : DE X c b mb) (hs : PlainIx b := by exact fun _ _ => rfl) : DE X c (.Subscript a b pos) (dOp ixD ma mb) :=
  ⟨PE.imp (pe_ix ix_seq ha.run hb.run hs) fun _ _ _ h => lift_two sv_ix h⟩
/-- x[e], x a list of the def's own -/
def dIxO (i : Nat) (m : DTE) (en : En) (Q : D → Prop) : Prop := onOwn (gt en i) fun ds => m en fun d => ixL ds d Q
theorem de_ixO {i : Nat} {x : Str} {px : Pos} (hN : X.N[i]? = some x) (hv : Vis X.env.scope x) (hb : DE X c b mb) (hs : PlainIx b := by exact fun _ _ => rfl) (hd : (x == ("__debug__" : Str)) = false := by decide) (hcd : (x == ("__classdict__" : Str)) = false := by decide) :
    DE X c (.Subscript (.Name x px) b pos) (dIxO i mb) := by
  refine ⟨PE.imp (pe_ix ix_seq (pe_var hN hv hd hcd) hb.run hs) fun σ H Q h => ?_⟩
  obtain ⟨F, en, R, r, h, k⟩ := h
  unfold dIxO onOwn at h
  split at h
  · rename_i ds hg
    obtain ⟨ov, e1, p, vs, e2, e3, e4, e5⟩ := r.sl i _ (gt_get hg (fun z => nomatch z))
    subst e2
    refine ⟨_, e1, F, en, _, r, h, fun d hd v F' H' x rv => ?_⟩
    obtain ⟨j, z, rfl, h1, h2⟩ := ixL_inv hd
    obtain ⟨u, q1, q2⟩ := (Reps.mono x.ff _ _ e4).atI h1
    cases rv
    exact .inl ⟨p, vs, j, u, rfl, rfl, SqL.of (x.hh _ _ e3 (r.notW ⟨e1, _, gt_get hg (fun z => nomatch z), rfl⟩)), q1, k _ h2 _ F' H' x q2⟩
  · exact h.elim

def liftO (K : PySem.W.Frag) (c : Ct) (m : En → (Option Int → Prop) → Prop) : TO := fun σ H Q => ∃ F en R, SR K c F σ H en ∧ m en R ∧ ∀ o, R o → ∀ F' H', Ext c.wo F H F' H' → Q o H'
structure DO (X : Cx) (c : Ct) (e : Option Expr) (m : En → (Option Int → Prop) → Prop) : Prop where
  run : PO X e (liftO X.K c m)
def onInt (d : D) (K : Int → Prop) : Prop := match d with | .int i => K i | _ => False
def dNo (_x : En) (Q : Option Int → Prop) : Prop := Q none
def dPt (m : DTE) (en : En) (Q : Option Int → Prop) : Prop := m en fun d => onInt d fun i => Q (some i)
theorem PO.imp {X : Cx} {e : Option Expr} {t t' : TO} (h : PO X e t) (k : ∀ σ H Q, t' σ H Q → t σ H Q) : PO X e t' := ⟨fun pins s σ H Q I q => h.run pins s σ H Q I (k _ _ _ q)⟩
theorem do_none : DO X c none dNo := ⟨PO.imp po_none fun σ H Q ⟨F, en, R, r, h, k⟩ => k _ h F H r.ext.self⟩
theorem do_some (he : DE X c e m) : DO X c (some e) (dPt m) := by
  refine ⟨PO.imp (po_some he.run) fun σ H Q h => ?_⟩
  obtain ⟨F, en, R, r, h, k⟩ := h
  refine ⟨F, en, _, r, h, fun d hd v F' H' x rv => ?_⟩
  cases d with
  | int i => cases rv; exact ⟨i, rfl, k _ hd F' H' x⟩
  | _ => exact False.elim hd
def cutL {α : Type} (xs : List α) (lo hi : Option Int) : List α := (xs.drop (HT.sIx xs.length 0 lo)).take (HT.sIx xs.length xs.length hi - HT.sIx xs.length 0 lo)
theorem cutL_length {α : Type} (xs : List α) (lo hi : Option Int) : (cutL xs lo hi).length ≤ xs.length := by
  unfold cutL
  rw [List.length_take, List.length_drop]
  omega
theorem Reps.cut {K : PySem.W.Frag} {F : Hp} {ds : List D} {vs : List V} (h : Reps K F vs ds) (lo hi : Option Int) : Reps K F (cutV vs lo hi) (cutL ds lo hi) := by
  unfold cutV cutL
  rw [h.len]
  exact (h.drop _).take _
def slD (d : D) (lo hi : Option Int) (Q : D → Prop) : Prop := match d with
  | .list ds => Q (.list (cutL ds lo hi))
  | .tuple ds => Q (.tuple (cutL ds lo hi))
  | .str z => z.length ≤ sizeLine ∧ Q (.str (cutS z lo hi))
  | _ => False
def dSl (m : DTE) (ml mh : En → (Option Int → Prop) → Prop) (en : En) (Q : D → Prop) : Prop := m en fun d => ml en fun lo => mh en fun hi => slD d lo hi Q
theorem cutV_whole {α : Type} {xs : List α} {lo hi : Option Int} (h : HT.sIx xs.length 0 lo = 0 ∧ HT.sIx xs.length xs.length hi = xs.length) : cutL xs lo hi = xs := by
  unfold cutL
  rw [h.1, h.2]
  simp
theorem de_slice {lo hi : Option Expr} {p2 : Pos} {tl th : En → (Option Int → Prop) → Prop} (he : DE X c e m) (hl : DO X c lo tl) (hh : DO X c hi th) : DE X c (.Subscript e (.Slice lo hi none p2) pos) (dSl m tl th) := by
  refine ⟨PE.imp (pe_slice (sl_list.or (sl_tupA.or sl_str)) he.run hl.run hh.run) fun σ H Q h => ?_⟩
  obtain ⟨F, en, R, r, h, k⟩ := h
  refine ⟨F, en, _, r, h, fun d hd v F1 H1 x1 rv => ?_⟩
  refine ⟨F1, en, _, r.grow x1, hd, fun l h2 F2 H2 x2 => ?_⟩
  refine ⟨F2, en, _, (r.grow x1).grow x2, h2, fun u h3 F3 H3 x3 => ?_⟩
  have rv := Rep.mono x3.ff _ _ (Rep.mono x2.ff _ _ rv)
  have x := x1.trans (x2.trans x3)
  have xs := x.self
  unfold slD at h3
  split at h3
  · obtain ⟨p, ys, rfl, g1, g2, g3⟩ := rv.lstI
    refine .inl ⟨p, ys, rfl, SqL.of (x.fh _ _ g1), fun t ht => ?_⟩
    obtain ⟨y1, y2⟩ := newLst (c := c) xs ht (g2.cut l u) (Nat.le_trans (cutL_length _ _ _) g3)
    exact k _ h3 _ _ _ (x.trans y1) y2
  · rename_i ds
    obtain ⟨p, ys, rfl, g1, g2, g3⟩ := rv.tupI
    refine .inr (.inl ⟨p, ys, rfl, sqT_mono x.fh g1, fun w => ?_, fun w t ht => ?_⟩)
    · rw [g2.len] at w
      rw [cutV_whole w] at h3
      exact k _ h3 _ _ _ x rv
    · obtain ⟨y1, y2⟩ := newTup (c := c) xs ht (g2.cut l u) (Nat.le_trans (cutL_length _ _ _) g3)
      exact k _ h3 _ _ _ (x.trans y1) y2
  · cases rv
    exact .inr (.inr ⟨_, rfl, h3.1, k _ h3.2 _ _ _ x (.str _)⟩)
  · exact h3.elim

abbrev DC := List D → (D → Prop) → Prop
def ServesC (K : PySem.W.Frag) (c : Ct) (r : List V → Hp → VK → Prop) (d : DC) : Prop :=
  ∀ (F H : Hp) (vs : List V) (ds : List D) (R : D → Prop) (Q : VK), Ext c.wo F H F H → Reps K F vs ds → d ds R → (∀ z, R z → ∀ v F' H', Ext c.wo F H F' H' → Rep K F' v z → Q v H') → r vs H Q
def dB (d : DC) (ml : DTA) (en : En) (Q : D → Prop) : Prop := ml en fun ds => d ds Q
theorem lift_cb {K : PySem.W.Frag} {r : List V → Hp → VK → Prop} {d : DC} {n : Nat} (sv : ServesC K c r d) {σ : St} {H : Hp} {Q : VK} (h : liftE K c (dB d ml) σ H Q) : tCB r (liftA K c n ml) σ H Q := by
  obtain ⟨F, en, R, r, h, k⟩ := h
  refine ⟨F, en, _, r, h, fun ds hd vs F1 H1 x1 rv _ => ?_⟩
  exact sv F1 H1 vs ds R Q x1.self rv hd fun z hz v F' H' x rz => k z hz v F' H' (x1.trans x) rz
theorem de_callB {x : Str} {p : Pos} {id : String} {r : List V → Hp → VK → Prop} {d : DC} (hc : CallR X (.builtin id) r) (sv : ServesC X.K c r d) (hg : Gl X x) (hm : X.mg x = none) (hv : bootBuiltins x = some (.builtin id)) (ha : DA X c (e :: es) ml)
    (hn : x ≠ "__name__" := by decide) (hdb : (x == ("__debug__" : Str)) = false := by decide)
    (he : starEach (e :: es) X.env = (false, eval e X.env) :: starEach es X.env := by rfl) (hpl : (backTo pos (starEach es X.env)).any (·.1) = false := by rfl) : DE X c (.Call (.Name x p) (e :: es) [] pos) (dB d ml) :=
  ⟨PE.imp (pe_callB hc hg hm hv ha.run hn hdb he hpl) fun _ _ _ h => lift_cb sv h⟩
theorem de_callTy {x : Str} {p : Pos} {T : String} {r : List V → Hp → VK → Prop} {d : DC} (hc : CallR X (.type T) r) (sv : ServesC X.K c r d) (hg : Gl X x) (hm : X.mg x = none) (hv : bootBuiltins x = some (.type T)) (ha : DA X c (e :: es) ml)
    (hn : x ≠ "__name__" := by decide) (hdb : (x == ("__debug__" : Str)) = false := by decide)
    (he : starEach (e :: es) X.env = (false, eval e X.env) :: starEach es X.env := by rfl) (hpl : (backTo pos (starEach es X.env)).any (·.1) = false := by rfl) : DE X c (.Call (.Name x p) (e :: es) [] pos) (dB d ml) :=
  ⟨PE.imp (pe_callTy hc hg hm hv ha.run hn hdb he hpl) fun _ _ _ h => lift_cb sv h⟩
theorem Reps.one {K : PySem.W.Frag} {F : Hp} {vs : List V} {d : D} (h : Reps K F vs [d]) : ∃ v, vs = [v] ∧ Rep K F v d := by
  cases h with
  | cons h1 h2 => cases h2; exact ⟨_, rfl, h1⟩
theorem Reps.two {K : PySem.W.Frag} {F : Hp} {vs : List V} {d e : D} (h : Reps K F vs [d, e]) : ∃ v u, vs = [v, u] ∧ Rep K F v d ∧ Rep K F u e := by
  cases h with
  | cons h1 h2 =>
    obtain ⟨u, rfl, h3⟩ := h2.one
    exact ⟨_, _, rfl, h1, h3⟩
/-- abs -/
def absD : DC := fun ds Q => match ds with | [.int i] => Q (.int (i.natAbs : Int)) | _ => False
theorem sv_abs {K : PySem.W.Frag} : ServesC K c (fun xs H Q => ∃ i, xs = [.int i] ∧ Q (.int (if i < 0 then -i else i)) H) absD := by
  intro F H vs ds R Q ex rv h k
  unfold absD at h
  split at h
  · rename_i i
    obtain ⟨v, rfl, r1⟩ := rv.one
    cases r1
    refine ⟨i, rfl, ?_⟩
    have e : (if i < 0 then -i else i) = (i.natAbs : Int) := by split <;> omega
    rw [e]
    exact k _ h _ F H ex (.int _)
  · exact h.elim
theorem de_abs {p : Pos} (hg : Gl X "abs") (hm : X.mg "abs" = none) (ha : DA X c [a] ml) (he : starEach [a] X.env = (false, eval a X.env) :: starEach [] X.env := by rfl) (hpl : (backTo pos (starEach [] X.env)).any (·.1) = false := by rfl) : DE X c (.Call (.Name "abs" p) [a] [] pos) (dB absD ml) :=
  de_callB call_abs sv_abs hg hm boot_abs ha (by decide) (by decide) he hpl
/-- int(..) of an int, a bool -/
def intD : DC := fun ds Q => match ds with | [.int i] => Q (.int i) | [.bool k] => Q (.int (if k then 1 else 0)) | _ => False
theorem sv_int1 {K : PySem.W.Frag} : ServesC K c (fun xs H Q => (∃ i, xs = [.int i] ∧ Q (.int i) H) ∨ ∃ k, xs = [.bl k] ∧ Q (.int (if k then 1 else 0)) H) intD := by
  intro F H vs ds R Q ex rv h k
  unfold intD at h
  split at h
  · obtain ⟨v, rfl, r1⟩ := rv.one
    cases r1
    exact .inl ⟨_, rfl, k _ h _ F H ex (.int _)⟩
  · obtain ⟨v, rfl, r1⟩ := rv.one
    cases r1
    exact .inr ⟨_, rfl, k _ h _ F H ex (.int _)⟩
  · exact h.elim
theorem de_int1 {p : Pos} (hg : Gl X "int") (hm : X.mg "int" = none) (ha : DA X c [a] ml) (he : starEach [a] X.env = (false, eval a X.env) :: starEach [] X.env := by rfl) (hpl : (backTo pos (starEach [] X.env)).any (·.1) = false := by rfl) : DE X c (.Call (.Name "int" p) [a] [] pos) (dB intD ml) :=
  de_callTy call_int1 sv_int1 hg hm boot_int ha (by decide) (by decide) he hpl
/-- len -/
def lenD : DC := fun ds Q => match ds with
  | [.list xs] => Q (.int xs.length)
  | [.tuple xs] => Q (.int xs.length)
  | [.str z] => z.length ≤ sizeLine ∧ Q (.int z.length)
  | _ => False
theorem sv_len {K : PySem.W.Frag} : ServesC K c (fun xs H Q => (∃ p ys, xs = [.ref p] ∧ (SqL K H p ys ∨ SqT K H p ys) ∧ Q (.int ys.length) H) ∨ ∃ z, xs = [.str z] ∧ z.length ≤ sizeLine ∧ Q (.int z.length) H) lenD := by
  intro F H vs ds R Q ex rv h k
  unfold lenD at h
  split at h
  · obtain ⟨v, rfl, r1⟩ := rv.one
    obtain ⟨p, ys, rfl, g1, g2, g3⟩ := r1.lstI
    exact .inl ⟨p, ys, rfl, .inl (SqL.of (ex.fh _ _ g1)), by rw [g2.len]; exact k _ h _ F H ex (.int _)⟩
  · obtain ⟨v, rfl, r1⟩ := rv.one
    obtain ⟨p, ys, rfl, g1, g2, g3⟩ := r1.tupI
    exact .inl ⟨p, ys, rfl, .inr (sqT_mono ex.fh g1), by rw [g2.len]; exact k _ h _ F H ex (.int _)⟩
  · obtain ⟨v, rfl, r1⟩ := rv.one
    cases r1
    exact .inr ⟨_, rfl, h.1, k _ h.2 _ F H ex (.int _)⟩
  · exact h.elim
theorem de_len {p : Pos} (hg : Gl X "len") (hm : X.mg "len" = none) (ha : DA X c [a] ml) (he : starEach [a] X.env = (false, eval a X.env) :: starEach [] X.env := by rfl) (hpl : (backTo pos (starEach [] X.env)).any (·.1) = false := by rfl) : DE X c (.Call (.Name "len" p) [a] [] pos) (dB lenD ml) :=
  de_callB (call_len_seq.or call_len_str) sv_len hg hm PySem.boot_len ha (by decide) (by decide) he hpl
/-- len(x), x a list of the def's own -/
def dLenO (i : Nat) (en : En) (Q : D → Prop) : Prop := onOwn (gt en i) fun ds => Q (.int ds.length)
theorem de_lenO {i : Nat} {x : Str} {p px : Pos} (hg : Gl X "len") (hm : X.mg "len" = none) (hN : X.N[i]? = some x) (hv : Vis X.env.scope x) (hd : (x == ("__debug__" : Str)) = false := by decide) (hcd : (x == ("__classdict__" : Str)) = false := by decide)
    (he : starEach [.Name x px] X.env = (false, eval (.Name x px) X.env) :: starEach [] X.env := by rfl) (hpl : (backTo pos (starEach [] X.env)).any (·.1) = false := by rfl) : DE X c (.Call (.Name "len" p) [.Name x px] [] pos) (dLenO i) := by
  refine ⟨PE.imp (pe_callB call_len_seq hg hm PySem.boot_len (pa_cons (pe_var hN hv hd hcd) pa_nil he) (by decide) (by decide) he hpl) fun σ H Q h => ?_⟩
  obtain ⟨F, en, R, r, h, k⟩ := h
  unfold dLenO onOwn at h
  split at h
  · rename_i ds hg
    obtain ⟨ov, e1, p, vs, e2, e3, e4, e5⟩ := r.sl i _ (gt_get hg (fun z => nomatch z))
    subst e2
    exact ⟨_, e1, p, vs, rfl, .inl (SqL.of e3), by rw [e4.len]; exact k _ h _ F H r.ext.self (.int _)⟩
  · exact h.elim
/-- tuple(..), list(..) of a list or tuple -/
def tupleD : DC := fun ds Q => match ds with | [.list xs] => Q (.tuple xs) | [.tuple xs] => Q (.tuple xs) | _ => False
theorem sv_tuple {K : PySem.W.Frag} : ServesC K c (fun xs H Q => ∃ p ys, xs = [.ref p] ∧ ((SqL K H p ys ∧ ∀ l, H l = none → Q (.ref l) (upd H l (.tup ys))) ∨ (SqT K H p ys ∧ Q (.ref p) H))) tupleD := by
  intro F H vs ds R Q ex rv h k
  unfold tupleD at h
  split at h
  · obtain ⟨v, rfl, r1⟩ := rv.one
    obtain ⟨p, ys, rfl, g1, g2, g3⟩ := r1.lstI
    refine ⟨p, ys, rfl, .inl ⟨SqL.of (ex.fh _ _ g1), fun l hl => ?_⟩⟩
    obtain ⟨y1, y2⟩ := newTup ex hl g2 g3
    exact k _ h _ _ _ y1 y2
  · obtain ⟨v, rfl, r1⟩ := rv.one
    obtain ⟨p, ys, e, g1, g2, g3⟩ := r1.tupI
    subst e
    exact ⟨p, ys, rfl, .inr ⟨sqT_mono ex.fh g1, k _ h _ F H ex r1⟩⟩
  · exact h.elim
theorem de_tuple {p : Pos} (hg : Gl X "tuple") (hm : X.mg "tuple" = none) (ha : DA X c [a] ml) (he : starEach [a] X.env = (false, eval a X.env) :: starEach [] X.env := by rfl) (hpl : (backTo pos (starEach [] X.env)).any (·.1) = false := by rfl) : DE X c (.Call (.Name "tuple" p) [a] [] pos) (dB tupleD ml) :=
  de_callTy call_tuple_of sv_tuple hg hm boot_tuple ha (by decide) (by decide) he hpl
def listD : DC := fun ds Q => match ds with | [.list xs] => Q (.list xs) | [.tuple xs] => Q (.list xs) | _ => False
theorem sv_list {K : PySem.W.Frag} : ServesC K c (fun xs H Q => ∃ p ys, xs = [.ref p] ∧ (SqL K H p ys ∨ SqT K H p ys) ∧ ∀ l, H l = none → Q (.ref l) (upd H l (.lst ys))) listD := by
  intro F H vs ds R Q ex rv h k
  unfold listD at h
  split at h
  · obtain ⟨v, rfl, r1⟩ := rv.one
    obtain ⟨p, ys, rfl, g1, g2, g3⟩ := r1.lstI
    refine ⟨p, ys, rfl, .inl (SqL.of (ex.fh _ _ g1)), fun l hl => ?_⟩
    obtain ⟨y1, y2⟩ := newLst ex hl g2 g3
    exact k _ h _ _ _ y1 y2
  · obtain ⟨v, rfl, r1⟩ := rv.one
    obtain ⟨p, ys, rfl, g1, g2, g3⟩ := r1.tupI
    refine ⟨p, ys, rfl, .inr (sqT_mono ex.fh g1), fun l hl => ?_⟩
    obtain ⟨y1, y2⟩ := newLst ex hl g2 g3
    exact k _ h _ _ _ y1 y2
  · exact h.elim
theorem de_list {p : Pos} (hg : Gl X "list") (hm : X.mg "list" = none) (ha : DA X c [a] ml) (he : starEach [a] X.env = (false, eval a X.env) :: starEach [] X.env := by rfl) (hpl : (backTo pos (starEach [] X.env)).any (·.1) = false := by rfl) : DE X c (.Call (.Name "list" p) [a] [] pos) (dB listD ml) :=
  de_callTy call_list_of sv_list hg hm boot_list ha (by decide) (by decide) he hpl
/-- min, max of two ints -/
def min2D : DC := fun ds Q => match ds with | [.int i, .int j] => Q (.int (if j < i then j else i)) | _ => False
def max2D : DC := fun ds Q => match ds with | [.int i, .int j] => Q (.int (if j > i then j else i)) | _ => False
theorem sv_min2 {K : PySem.W.Frag} : ServesC K c (fun xs H Q => ∃ i j, xs = [.int i, .int j] ∧ Q (.int (if j < i then j else i)) H) min2D := by
  intro F H vs ds R Q ex rv h k
  unfold min2D at h
  split at h
  · obtain ⟨v, u, rfl, r1, r2⟩ := rv.two
    cases r1; cases r2
    exact ⟨_, _, rfl, k _ h _ F H ex (.int _)⟩
  · exact h.elim
theorem sv_max2 {K : PySem.W.Frag} : ServesC K c (fun xs H Q => ∃ i j, xs = [.int i, .int j] ∧ Q (.int (if j > i then j else i)) H) max2D := by
  intro F H vs ds R Q ex rv h k
  unfold max2D at h
  split at h
  · obtain ⟨v, u, rfl, r1, r2⟩ := rv.two
    cases r1; cases r2
    exact ⟨_, _, rfl, k _ h _ F H ex (.int _)⟩
  · exact h.elim
theorem de_min2 {p : Pos} (hc : X.calm = true) (hg : Gl X "min") (hm : X.mg "min" = none) (ha : DA X c [a, b] ml) (he : starEach [a, b] X.env = (false, eval a X.env) :: starEach [b] X.env := by rfl) (hpl : (backTo pos (starEach [b] X.env)).any (·.1) = false := by rfl) : DE X c (.Call (.Name "min" p) [a, b] [] pos) (dB min2D ml) :=
  de_callB (call_min2 hc) sv_min2 hg hm boot_min ha (by decide) (by decide) he hpl
theorem de_max2 {p : Pos} (hc : X.calm = true) (hg : Gl X "max") (hm : X.mg "max" = none) (ha : DA X c [a, b] ml) (he : starEach [a, b] X.env = (false, eval a X.env) :: starEach [b] X.env := by rfl) (hpl : (backTo pos (starEach [b] X.env)).any (·.1) = false := by rfl) : DE X c (.Call (.Name "max" p) [a, b] [] pos) (dB max2D ml) :=
  de_callB (call_max2 hc) sv_max2 hg hm boot_max ha (by decide) (by decide) he hpl
/-- all the items are ints (bools) -/
def intsOf : List D → Option (List Int)
  | [] => some []
  | .int i :: r => (intsOf r).map (i :: ·)
  | _ => none
theorem intsOf_eq : ∀ {ds : List D} {ns : List Int}, intsOf ds = some ns → ds = ns.map .int
  | [], _, h => by cases h; rfl
  | .int i :: r, ns, h => by
    unfold intsOf at h
    cases q : intsOf r with
    | none => rw [q] at h; cases h
    | some ms =>
      rw [q] at h
      cases h
      rw [intsOf_eq q]; rfl
  | .none :: r, _, h => by cases h
  | .bool _ :: r, _, h => by cases h
  | .str _ :: r, _, h => by cases h
  | .list _ :: r, _, h => by cases h
  | .tuple _ :: r, _, h => by cases h
  | .dict _ :: r, _, h => by cases h
theorem intsOf_map : ∀ ns : List Int, intsOf (ns.map .int) = some ns
  | [] => rfl
  | n :: ns => by
    show (intsOf (ns.map .int)).map (n :: ·) = _
    rw [intsOf_map ns]; rfl
def blsOf : List D → Option (List Bool)
  | [] => some []
  | .bool i :: r => (blsOf r).map (i :: ·)
  | _ => none
theorem blsOf_eq : ∀ {ds : List D} {ns : List Bool}, blsOf ds = some ns → ds = ns.map .bool
  | [], _, h => by cases h; rfl
  | .bool i :: r, ns, h => by
    unfold blsOf at h
    cases q : blsOf r with
    | none => rw [q] at h; cases h
    | some ms =>
      rw [q] at h
      cases h
      rw [blsOf_eq q]; rfl
  | .none :: r, _, h => by cases h
  | .int _ :: r, _, h => by cases h
  | .str _ :: r, _, h => by cases h
  | .list _ :: r, _, h => by cases h
  | .tuple _ :: r, _, h => by cases h
  | .dict _ :: r, _, h => by cases h
theorem blsOf_map : ∀ ns : List Bool, blsOf (ns.map .bool) = some ns
  | [] => rfl
  | n :: ns => by
    show (blsOf (ns.map .bool)).map (n :: ·) = _
    rw [blsOf_map ns]; rfl
/-- sum, all, any of a list -/
def sumD : DC := fun ds Q => match ds with | [.list xs] => (match intsOf xs with | some ns => Q (.int ns.sum) | none => False) | _ => False
def allD : DC := fun ds Q => match ds with | [.list xs] => (match blsOf xs with | some ns => Q (.bool (ns.all id)) | none => False) | _ => False
def anyD : DC := fun ds Q => match ds with | [.list xs] => (match blsOf xs with | some ns => Q (.bool (ns.any id)) | none => False) | _ => False
theorem sv_sum {K : PySem.W.Frag} : ServesC K c (rSum K) sumD := by
  intro F H vs ds R Q ex rv h k
  unfold sumD at h
  split at h
  · split at h
    · rename_i ns q
      obtain ⟨v, rfl, r1⟩ := rv.one
      obtain ⟨p, ys, rfl, g1, g2, g3⟩ := r1.lstI
      rw [intsOf_eq q] at g2
      have e := g2.ints_inv
      subst e
      exact ⟨p, ns, rfl, SqL.of (ex.fh _ _ g1), k _ h _ F H ex (.int _)⟩
    · exact h.elim
  · exact h.elim
theorem sv_all {K : PySem.W.Frag} : ServesC K c (rAll K) allD := by
  intro F H vs ds R Q ex rv h k
  unfold allD at h
  split at h
  · split at h
    · rename_i ns q
      obtain ⟨v, rfl, r1⟩ := rv.one
      obtain ⟨p, ys, rfl, g1, g2, g3⟩ := r1.lstI
      rw [blsOf_eq q] at g2
      have e := g2.bls_inv
      subst e
      exact ⟨p, ns, rfl, SqL.of (ex.fh _ _ g1), k _ h _ F H ex (.bl _)⟩
    · exact h.elim
  · exact h.elim
theorem sv_any {K : PySem.W.Frag} : ServesC K c (rAny K) anyD := by
  intro F H vs ds R Q ex rv h k
  unfold anyD at h
  split at h
  · split at h
    · rename_i ns q
      obtain ⟨v, rfl, r1⟩ := rv.one
      obtain ⟨p, ys, rfl, g1, g2, g3⟩ := r1.lstI
      rw [blsOf_eq q] at g2
      have e := g2.bls_inv
      subst e
      exact ⟨p, ns, rfl, SqL.of (ex.fh _ _ g1), k _ h _ F H ex (.bl _)⟩
    · exact h.elim
  · exact h.elim
theorem de_sum {p : Pos} (hc : X.calm = true) (hg : Gl X "sum") (hm : X.mg "sum" = none) (ha : DA X c [a] ml) (he : starEach [a] X.env = (false, eval a X.env) :: starEach [] X.env := by rfl) (hpl : (backTo pos (starEach [] X.env)).any (·.1) = false := by rfl) : DE X c (.Call (.Name "sum" p) [a] [] pos) (dB sumD ml) :=
  de_callB (cr_sum hc) sv_sum hg hm boot_sum ha (by decide) (by decide) he hpl
theorem de_all {p : Pos} (hc : X.calm = true) (hg : Gl X "all") (hm : X.mg "all" = none) (ha : DA X c [a] ml) (he : starEach [a] X.env = (false, eval a X.env) :: starEach [] X.env := by rfl) (hpl : (backTo pos (starEach [] X.env)).any (·.1) = false := by rfl) : DE X c (.Call (.Name "all" p) [a] [] pos) (dB allD ml) :=
  de_callB (cr_all hc) sv_all hg hm boot_all ha (by decide) (by decide) he hpl
theorem de_any {p : Pos} (hc : X.calm = true) (hg : Gl X "any") (hm : X.mg "any" = none) (ha : DA X c [a] ml) (he : starEach [a] X.env = (false, eval a X.env) :: starEach [] X.env := by rfl) (hpl : (backTo pos (starEach [] X.env)).any (·.1) = false := by rfl) : DE X c (.Call (.Name "any" p) [a] [] pos) (dB anyD ml) :=
  de_callB (cr_any hc) sv_any hg hm boot_any ha (by decide) (by decide) he hpl

def tyN : D → String
  | .none => "NoneType"
  | .bool _ => "bool"
  | .int _ => "int"
  | .str _ => "str"
  | .list _ => "list"
  | .tuple _ => "tuple"
  | .dict _ => "dict"
theorem Rep.ty {K : PySem.W.Frag} {F : Hp} {v : V} {d : D} (h : Rep K F v d) : TyX K F v (.type (tyN d)) := by
  cases h with
  | non => exact .base .non
  | bl b => exact .base (.bl b)
  | int i => exact .base (.int i)
  | str x => exact .base (.str x)
  | lst h1 _ _ => exact .base (.lst h1)
  | tup h1 _ _ =>
    rcases h1 with (h1 | ⟨o, h1⟩) | ⟨o, its, n, h1, h2, _⟩
    · exact .base (.tup h1)
    · exact .fTuple h1
    · exact .kTuple h1 h2
theorem TyX.mono {K : PySem.W.Frag} {F H : Hp} (hF : ∀ a o, F a = some o → H a = some o) {v : V} {t : Value} (h : TyX K F v t) : TyX K H v t := by
  cases h with
  | base b =>
    cases b with
    | non => exact .base .non
    | bl y => exact .base (.bl y)
    | int y => exact .base (.int y)
    | str y => exact .base (.str y)
    | flt y => exact .base (.flt y)
    | lst e => exact .base (.lst (hF _ _ e))
    | frz e => exact .base (.frz (hF _ _ e))
    | tup e => exact .base (.tup (hF _ _ e))
    | dK e => exact .base (.dK (hF _ _ e))
    | dT e => exact .base (.dT (hF _ _ e))
    | ins e cl ha hn htk hm => exact .base (.ins (hF _ _ e) cl ha hn htk hm)
  | byt b => exact .byt b
  | set e => exact .set (hF _ _ e)
  | kList e c => exact .kList e c
  | kTuple e c => exact .kTuple e c
  | kDict e c => exact .kDict e c
  | fTuple e => exact .fTuple (hF _ _ e)
  | fDict e => exact .fDict (hF _ _ e)
/-- the class T is one that f tells -/
def Tells (T : String) (f : D → Bool) : Prop := ∀ d, kitB (tyN d) T = some (f d)
def isIntD : D → Bool | .int _ => true | .bool _ => true | _ => false
def isBoolD : D → Bool | .bool _ => true | _ => false
def isStrD : D → Bool | .str _ => true | _ => false
def isTupD : D → Bool | .tuple _ => true | _ => false
def isLstD : D → Bool | .list _ => true | _ => false
theorem tells_int : Tells "int" isIntD
  | .none => (by decide +kernel : kitB "NoneType" "int" = some false)
  | .bool _ => (by decide +kernel : kitB "bool" "int" = some true)
  | .int _ => (by decide +kernel : kitB "int" "int" = some true)
  | .str _ => (by decide +kernel : kitB "str" "int" = some false)
  | .list _ => (by decide +kernel : kitB "list" "int" = some false)
  | .tuple _ => (by decide +kernel : kitB "tuple" "int" = some false)
  | .dict _ => (by decide +kernel : kitB "dict" "int" = some false)
theorem tells_bool : Tells "bool" isBoolD
  | .none => (by decide +kernel : kitB "NoneType" "bool" = some false)
  | .bool _ => (by decide +kernel : kitB "bool" "bool" = some true)
  | .int _ => (by decide +kernel : kitB "int" "bool" = some false)
  | .str _ => (by decide +kernel : kitB "str" "bool" = some false)
  | .list _ => (by decide +kernel : kitB "list" "bool" = some false)
  | .tuple _ => (by decide +kernel : kitB "tuple" "bool" = some false)
  | .dict _ => (by decide +kernel : kitB "dict" "bool" = some false)
theorem tells_str : Tells "str" isStrD
  | .none => (by decide +kernel : kitB "NoneType" "str" = some false)
  | .bool _ => (by decide +kernel : kitB "bool" "str" = some false)
  | .int _ => (by decide +kernel : kitB "int" "str" = some false)
  | .str _ => (by decide +kernel : kitB "str" "str" = some true)
  | .list _ => (by decide +kernel : kitB "list" "str" = some false)
  | .tuple _ => (by decide +kernel : kitB "tuple" "str" = some false)
  | .dict _ => (by decide +kernel : kitB "dict" "str" = some false)
theorem tells_tuple : Tells "tuple" isTupD
  | .none => (by decide +kernel : kitB "NoneType" "tuple" = some false)
  | .bool _ => (by decide +kernel : kitB "bool" "tuple" = some false)
  | .int _ => (by decide +kernel : kitB "int" "tuple" = some false)
  | .str _ => (by decide +kernel : kitB "str" "tuple" = some false)
  | .list _ => (by decide +kernel : kitB "list" "tuple" = some false)
  | .tuple _ => (by decide +kernel : kitB "tuple" "tuple" = some true)
  | .dict _ => (by decide +kernel : kitB "dict" "tuple" = some false)
theorem tells_list : Tells "list" isLstD
  | .none => (by decide +kernel : kitB "NoneType" "list" = some false)
  | .bool _ => (by decide +kernel : kitB "bool" "list" = some false)
  | .int _ => (by decide +kernel : kitB "int" "list" = some false)
  | .str _ => (by decide +kernel : kitB "str" "list" = some false)
  | .list _ => (by decide +kernel : kitB "list" "list" = some true)
  | .tuple _ => (by decide +kernel : kitB "tuple" "list" = some false)
  | .dict _ => (by decide +kernel : kitB "dict" "list" = some false)
def dIsi (f : D → Bool) (m : DTE) (en : En) (Q : D → Prop) : Prop := m en fun d => Q (.bool (f d))
theorem de_isi {x : Str} {T : String} {f : D → Bool} {p q : Pos} (ht : Tells T f) (hg : Gl X "isinstance") (hm : X.mg "isinstance" = none) (hgT : Gl X x) (hmT : X.mg x = none) (hvT : bootBuiltins x = some (.type T)) (ha : DE X c a m)
    (he : starEach [a, .Name x q] X.env = (false, eval a X.env) :: starEach [.Name x q] X.env := by rfl) (hpl : (backTo pos (starEach [.Name x q] X.env)).any (·.1) = false := by rfl) (hn : x ≠ "__name__" := by decide) (hdb : (x == ("__debug__" : Str)) = false := by decide)
    (he2 : starEach [.Name x q] X.env = (false, eval (.Name x q) X.env) :: starEach [] X.env := by rfl) :
    DE X c (.Call (.Name "isinstance" p) [a, .Name x q] [] pos) (dIsi f m) := by
  refine ⟨PE.imp (pe_callB call_isi hg hm boot_isinstance (pa_cons ha.run (pa_cons (pe_bltn (v := .ty T) hgT hmT hvT rfl hn hdb) pa_nil he2) he) (by decide) (by decide) he hpl) fun σ H Q h => ?_⟩
  obtain ⟨F, en, R, r, h, k⟩ := h
  refine ⟨F, en, _, r, h, fun d hd v F' H' x rv => ?_⟩
  exact ⟨v, .ty T, .type (tyN d), .type T, f d, rfl, .ty T, TyX.mono x.fh rv.ty, kit_ty (ht d), k _ hd _ F' H' x (.bl _)⟩

/-- what a def promises, by data -/
abbrev Spec := List D → (D → Prop) → Prop
def liftSp (K : PySem.W.Frag) (n : Nat) (sp : Lay.Spec) : Sp := fun vs H Q _ => ∃ F ds R, vs.length = n ∧ (∀ a o, F a = some o → H a = some o) ∧ Reps K F vs ds ∧ sp ds R ∧ ∀ d, R d → ∀ v F' H', Ext none F H F' H' → Rep K F' v d → Q v H'
def liftSpW (K : PySem.W.Frag) (n : Nat) (sp : Lay.Spec) : Sp := fun vs H Q _ => ∃ (p : Addr × Addr) (us : List V) (F : Hp) (ds : List D) (R : D → Prop), vs = .ref p.1 :: us ∧ us.length = n ∧ (∀ a o, F a = some o → H a = some o) ∧ F p.1 = none ∧ WOk H p ∧
  Reps K F us ds ∧ sp ds R ∧ ∀ d, R d → ∀ v F' H', Ext (some p) F H F' H' → Rep K F' v d → Q v H'
def dCall (sp : Lay.Spec) (ml : DTA) (en : En) (Q : D → Prop) : Prop := ml en fun ds => sp ds Q
theorem de_call {x : Str} {p : Pos} {k : Nat} {f : Addr} {fd : FuncData} {ps : List Str} {sp : Lay.Spec} (G : FnOk X.prog X.w X.K X.mg X.base CX0 k f fd ps (liftSp X.K ps.length sp)) (hr : Room k X.A) (hg : Gl X x) (hm : X.mg x = some (.ref f)) (hk : PySem.W.keepIn X.K (.ref f) = true) (hb : Binds X.K fd ps [])
    (ha : DA X c (e :: es) ml) (hl : (e :: es).length = ps.length := by rfl) (hdb : (x == ("__debug__" : Str)) = false := by decide) (he : starEach (e :: es) X.env = (false, eval e X.env) :: starEach es X.env := by rfl) (hpl : (backTo pos (starEach es X.env)).any (·.1) = false := by rfl) :
    DE X c (.Call (.Name x p) (e :: es) [] pos) (dCall sp ml) := by
  refine ⟨PE.imp (pe_call G hr hg hm hk hb .nil pass0 ha.run hdb he hpl) fun σ H Q h => ?_⟩
  obtain ⟨F, en, R, r, h, k⟩ := h
  refine ⟨F, en, _, r, h, fun ds hd vs F1 H1 x1 rv hn => ?_⟩
  show liftSp X.K ps.length sp (vs ++ []) H1 Q E0
  rw [List.append_nil]
  refine ⟨F1, ds, R, hn.trans hl, x1.fh, rv, hd, fun d hd v F' H' x rd => ?_⟩
  exact k d hd v F' H' (x1.trans (x.pure x1.wk)) rd
/-- f(w, ..): the source handed on -/
def dCallW (i : Nat) (sp : Lay.Spec) (ml : DTA) (en : En) (Q : D → Prop) : Prop := onWv (gt en i) (ml en fun ds => sp ds Q)
theorem de_callW {x y : Str} {i : Nat} {p py : Pos} {k : Nat} {f : Addr} {fd : FuncData} {ps : List Str} {sp : Lay.Spec} (G : FnOk X.prog X.w X.K X.mg X.base CX0 k f fd ps (liftSpW X.K (ps.length - 1) sp)) (hr : Room k X.A) (hg : Gl X x) (hm : X.mg x = some (.ref f)) (hk : PySem.W.keepIn X.K (.ref f) = true) (hb : Binds X.K fd ps [])
    (hN : X.N[i]? = some y) (hv : Vis X.env.scope y) (ha : DA X c es ml) (hl : es.length = ps.length - 1 := by rfl) (hdb : (x == ("__debug__" : Str)) = false := by decide) (he : starEach (.Name y py :: es) X.env = (false, eval (.Name y py) X.env) :: starEach es X.env := by rfl) (hpl : (backTo pos (starEach es X.env)).any (·.1) = false := by rfl)
    (hd : (y == ("__debug__" : Str)) = false := by decide) (hcd : (y == ("__classdict__" : Str)) = false := by decide) :
    DE X c (.Call (.Name x p) (.Name y py :: es) [] pos) (dCallW i sp ml) := by
  refine ⟨PE.imp (pe_call G hr hg hm hk hb .nil pass0 (pa_cons (pe_var hN hv hd hcd) ha.run he) hdb he hpl) fun σ H Q h => ?_⟩
  obtain ⟨F, en, R, r, h, k⟩ := h
  unfold dCallW onWv at h
  split at h
  · rename_i hgt
    obtain ⟨ov, e1, a, e2, da, e3⟩ := r.sl i _ (gt_get hgt (fun z => nomatch z))
    subst e2
    refine ⟨_, e1, F, en, _, r, h, fun ds hd vs F1 H1 x1 rv hn => ?_⟩
    show liftSpW X.K (ps.length - 1) sp ((V.ref a :: vs) ++ []) H1 Q E0
    rw [List.append_nil]
    refine ⟨(a, da), vs, F1, ds, R, rfl, hn.trans hl, x1.fh, (r.grow x1).wn _ e3, x1.wk _ e3, rv, hd, fun d hd v F' H' x rd => ?_⟩
    rw [← e3] at x
    exact k d hd v F' H' (x1.trans x) rd
  · exact h.elim
end
end Lay
namespace Lay
open PySem PySem.Spec L2
open PyProof.Rows hiding St

section
variable {X : Cx} {c : Ct} {e a b : Expr} {es : List Expr} {m ma mb : DTE} {ml : DTA} {mt mu : DTT} {pos : Pos}

abbrev DTG := D → En → (En → Prop) → Prop
abbrev DTGs := List D → En → (En → Prop) → Prop
/-- sl: the slots that the target stores -/
def liftG (K : PySem.W.Frag) (c : Ct) (sl : List Nat) (g : DTG) : TG := fun v σ H Q => ∃ F en d R, SR K c F σ H en ∧ Rep K F v d ∧ g d en R ∧ ∀ en' σ', R en' → SR K c F σ' H en' → (σ'.length = σ.length ∧ ∀ i, i ∉ sl → σ'[i]? = σ[i]?) → Q σ' H
def liftGs (K : PySem.W.Frag) (c : Ct) (sl : List Nat) (g : DTGs) : TGs := fun vs σ H Q => ∃ F en ds R, SR K c F σ H en ∧ Reps K F vs ds ∧ g ds en R ∧ ∀ en' σ', R en' → SR K c F σ' H en' → (σ'.length = σ.length ∧ ∀ i, i ∉ sl → σ'[i]? = σ[i]?) → Q σ' H
structure DG (X : Cx) (c : Ct) (tg : Expr) (sl : List Nat) (g : DTG) : Prop where
  run : PG X tg (liftG X.K c sl g)
structure DGs (X : Cx) (c : Ct) (ts : List Expr) (sl : List Nat) (g : DTGs) : Prop where
  run : PGs X ts (liftGs X.K c sl g)
theorem PG.imp {X : Cx} {e : Expr} {t t' : TG} (h : PG X e t) (k : ∀ v σ H Q, t' v σ H Q → t v σ H Q) : PG X e t' := ⟨fun pins s σ H v u Q I r q => h.run pins s σ H v u Q I r (k _ _ _ _ q)⟩
theorem PGs.imp {X : Cx} {e : List Expr} {t t' : TGs} (h : PGs X e t) (k : ∀ v σ H Q, t' v σ H Q → t v σ H Q) : PGs X e t' := ⟨fun pins s σ H v u Q I r q => h.run pins s σ H v u Q I r (k _ _ _ _ q)⟩
def gNm (i : Nat) (d : D) (en : En) (R : En → Prop) : Prop := R (en.set i (.val d))
theorem dg_name {i : Nat} {x : Str} (hN : X.N.Nodup) (hi : X.N[i]? = some x) (hx : Loc X.env.scope x) (hf : X.fn x = true ∨ X.env.scope.names.lookup x = some .local := by first | exact .inl rfl | exact .inr rfl | assumption) : DG X c (.Name x pos) [i] (gNm i) := by
  refine ⟨PG.imp (pg_name hN hi hx hf) fun v σ H Q h => ?_⟩
  obtain ⟨F, en, d, R, r, rv, h, k⟩ := h
  exact k _ _ h (r.set rv) ⟨List.length_set, fun j hj => List.getElem?_set_ne (fun z => hj (by simp [z]))⟩
def gNl (ds : List D) (en : En) (R : En → Prop) : Prop := match ds with | [] => R en | _ => False
def gCs (g : DTG) (gs : DTGs) (ds : List D) (en : En) (R : En → Prop) : Prop := match ds with | d :: r => g d en fun en' => gs r en' R | [] => False
theorem dgs_nil : DGs X c [] [] gNl := by
  refine ⟨PGs.imp pgs_nil fun v σ H Q h => ?_⟩
  obtain ⟨F, en, ds, R, r, rv, h, k⟩ := h
  cases ds with
  | nil => cases rv; exact ⟨rfl, k _ _ h r ⟨rfl, fun _ _ => rfl⟩⟩
  | cons _ _ => exact False.elim h
theorem dgs_cons {s1 s2 : List Nat} {g : DTG} {gs : DTGs} (h1 : DG X c e s1 g) (h2 : DGs X c es s2 gs) (hs : (assignEach (e :: es) X.env).map (·.2) = assign e X.env :: (assignEach es X.env).map (·.2) := by rfl) : DGs X c (e :: es) (s1 ++ s2) (gCs g gs) := by
  refine ⟨PGs.imp (pgs_cons h1.run h2.run hs) fun v σ H Q h => ?_⟩
  obtain ⟨F, en, ds, R, r, rv, h, k⟩ := h
  cases ds with
  | nil => exact False.elim h
  | cons d ds =>
    cases rv with
    | cons r1 r2 =>
      refine ⟨_, _, rfl, F, en, d, _, r, r1, h, fun en' σ' h' r' k1 => ?_⟩
      refine ⟨F, en', ds, R, r', r2, h', fun en2 σ2 h2 r2 k2 => k _ _ h2 r2 ⟨k2.1.trans k1.1, fun i hi => ?_⟩⟩
      rw [k2.2 i fun z => hi (by simp [z]), k1.2 i fun z => hi (by simp [z])]
def onTup (d : D) (K : List D → Prop) : Prop := match d with | .tuple ds => K ds | _ => False
def gTp (n : Nat) (gs : DTGs) (d : D) (en : En) (R : En → Prop) : Prop := onTup d fun ds => ds.length = n ∧ gs ds en R
theorem dg_tup {k : Nat} {gs : DTGs} {sl : List Nat} {n : Nat} (hc : X.calm = true) (h : DGs X c es sl gs) (hn : (assignEach es X.env).length = n := by rfl) (hst : (assignEach es X.env).findIdx? (·.1) = none := by rfl) : DG X c (.Tuple es k pos) sl (gTp n gs) := by
  refine ⟨PG.imp (pg_tup hc h.run hn hst) fun v σ H Q h => ?_⟩
  obtain ⟨F, en, d, R, r, rv, h, k⟩ := h
  cases d with
  | tuple ds =>
    obtain ⟨p, xs, rfl, g1, g2, g3⟩ := rv.tupI
    exact ⟨p, xs, rfl, sqT_mono r.fh g1, by rw [g2.len]; exact h.1, F, en, ds, R, r, g2, h.2, k⟩
  | _ => exact False.elim h

structure DWalk (K : PySem.W.Frag) (wo : Option (Addr × Addr)) (J : It) (F : Hp) (ds : List D) : Prop where
  go : ∀ (i : Nat) (d : D) F' H, (∀ a o, F a = some o → F' a = some o) → Ext wo F' H F' H → ds[i]? = some d → J.go i H
  yld : ∀ (i : Nat) (d : D) F' H x H', (∀ a o, F a = some o → F' a = some o) → Ext wo F' H F' H → ds[i]? = some d → J.yld i H x H' → ∃ F'', Ext wo F' H F'' H' ∧ Rep K F'' x d
  stop : ∀ F' H, (∀ a o, F a = some o → F' a = some o) → Ext wo F' H F' H → J.stop ds.length H
def liftI (K : PySem.W.Frag) (c : Ct) (z : Bool) (m : DTA) : TI := fun σ H R => ∃ F en Q, SR K c F σ H en ∧ m en Q ∧ ∀ ds, Q ds → ∀ J F' H', Ext c.wo F H F' H' → DWalk K c.wo J F' ds → (z = true → ds.length ≤ sizeLine) → R J H'
/-- z: the items are as many as a list may hold -/
structure DI (X : Cx) (c : Ct) (tg iter : Expr) (z : Bool) (m : DTA) : Prop where
  run : PI X tg iter (liftI X.K c z m)
theorem PI.imp {X : Cx} {tg e : Expr} {t t' : TI} (h : PI X tg e t) (k : ∀ σ H Q, t' σ H Q → t σ H Q) : PI X tg e t' := ⟨fun pins s σ H Q I q => h.run pins s σ H Q I (k _ _ _ q)⟩
theorem pi_seq {tg l : Expr} {tl : TE} (hl : PE X l tl) : PI X tg l (fun σ H R => tl σ H fun x H1 => ∃ a, x = .ref a ∧ (((∃ xs, SqL X.K H1 a xs) ∧ R (Itl X.K a) H1) ∨ ((∃ xs, SqT X.K H1 a xs) ∧ R (Itt X.K a) H1))) := by
  refine ⟨fun pins s σ H R I h => ?_⟩
  refine thn (hl.run pins s σ H _ I h) fun v s1 ⟨x, H1, I1, r1, q1⟩ => ?_
  obtain ⟨a, e, q⟩ := q1
  subst e
  cases r1
  rcases q with ⟨⟨xs, hq⟩, q⟩ | ⟨⟨xs, hq⟩, q⟩
  · obtain ⟨its, rv, p, hz⟩ := I1.list hq
    refine wpAny_pyIter_list p.isList ?_
    refine ⟨s1.heap.objs.size, [s1.heap.objs.size], _, _, H1, rfl, I1.kept (t' := s1.toks) fun b o e => Heap.get?_push_of_some _ e, turn_list a _, ⟨_, Heap.get?_push_size _ rfl, rfl, rfl⟩, fun b hb => ?_, q⟩
    have e : b = s1.heap.objs.size := by simpa using hb
    subst e
    exact I1.fpOk (Nat.le_refl _) (I1.hok.fresh (Nat.le_refl _))
  · obtain ⟨its, rv, p, hz⟩ := I1.tuple hq
    refine wpAny_pyIter_tuple (show s1.heap.IsTuple a its.toArray from p) ?_
    refine ⟨s1.heap.objs.size, [s1.heap.objs.size], _, _, H1, rfl, I1.kept (t' := s1.toks) fun b o e => Heap.get?_push_of_some _ e, turn_tuple a _, ⟨_, Heap.get?_push_size _ rfl, rfl, rfl⟩, fun b hb => ?_, q⟩
    have e : b = s1.heap.objs.size := by simpa using hb
    subst e
    exact I1.fpOk (Nat.le_refl _) (I1.hok.fresh (Nat.le_refl _))
theorem dwalk_list {K : PySem.W.Frag} {wo : Option (Addr × Addr)} {F : Hp} {p : Addr} {xs : List V} {ds : List D} (h : F p = some (.lst xs)) (r : Reps K F xs ds) : DWalk K wo (Itl K p) F ds where
  go := fun i d F' H hF x e => by
    obtain ⟨v, h1, h2⟩ := r.get e
    exact ⟨xs, v, SqL.of (x.fh _ _ (hF _ _ h)), h1⟩
  yld := fun i d F' H x H' hF ex e y => by
    obtain ⟨e1, y⟩ := y
    subst e1
    obtain ⟨v, h1, h2⟩ := r.get e
    have q := y xs (SqL.of (ex.fh _ _ (hF _ _ h)))
    rw [h1] at q
    cases q
    exact ⟨F', ex, Rep.mono hF _ _ h2⟩
  stop := fun F' H hF x => ⟨xs, SqL.of (x.fh _ _ (hF _ _ h)), Nat.le_of_eq r.len⟩
theorem dwalk_tup {K : PySem.W.Frag} {wo : Option (Addr × Addr)} {F : Hp} {p : Addr} {xs : List V} {ds : List D} (h : SqT K F p xs) (r : Reps K F xs ds) : DWalk K wo (Itt K p) F ds where
  go := fun i d F' H hF x e => by
    obtain ⟨v, h1, h2⟩ := r.get e
    exact ⟨xs, v, sqT_mono x.fh (sqT_mono hF h), h1⟩
  yld := fun i d F' H x H' hF ex e y => by
    obtain ⟨e1, y⟩ := y
    subst e1
    obtain ⟨v, h1, h2⟩ := r.get e
    have q := y xs (sqT_mono ex.fh (sqT_mono hF h))
    rw [h1] at q
    cases q
    exact ⟨F', ex, Rep.mono hF _ _ h2⟩
  stop := fun F' H hF x => ⟨xs, sqT_mono x.fh (sqT_mono hF h), Nat.le_of_eq r.len⟩
def onItems (d : D) (Q : List D → Prop) : Prop := match itemsD d with | some ds => Q ds | none => False
def dItems (m : DTE) (en : En) (Q : List D → Prop) : Prop := m en fun d => onItems d Q
theorem di_seq {tg l : Expr} (h : DE X c l m) : DI X c tg l true (dItems m) := by
  refine ⟨PI.imp (pi_seq h.run) fun σ H Q h => ?_⟩
  obtain ⟨F, en, R, r, h, k⟩ := h
  refine ⟨F, en, _, r, h, fun d hd v F' H' x rv => ?_⟩
  cases d with
  | list ds =>
    obtain ⟨p, xs, rfl, g1, g2, g3⟩ := rv.lstI
    exact ⟨p, rfl, .inl ⟨⟨xs, SqL.of (x.fh _ _ g1)⟩, k ds hd _ F' H' x (dwalk_list g1 g2) fun _ => g3⟩⟩
  | tuple ds =>
    obtain ⟨p, xs, rfl, g1, g2, g3⟩ := rv.tupI
    exact ⟨p, rfl, .inr ⟨⟨xs, sqT_mono x.fh g1⟩, k ds hd _ F' H' x (dwalk_tup g1 g2) fun _ => g3⟩⟩
  | _ => exact False.elim hd
def rangeD (lo : Int) (n : Nat) : List D := (List.range n).map fun (i : Nat) => .int (lo + i)
theorem rangeD_get {lo : Int} {n i : Nat} {d : D} (h : (rangeD lo n)[i]? = some d) : i < n ∧ d = .int (lo + i) := by
  unfold rangeD at h
  rw [List.getElem?_map] at h
  cases q : (List.range n)[i]? with
  | none => rw [q] at h; cases h
  | some j =>
    obtain ⟨h1, h2⟩ := List.getElem?_eq_some_iff.mp q
    rw [List.getElem_range] at h2
    rw [q] at h
    subst h2
    exact ⟨by simpa using h1, (Option.some.inj h).symm⟩
theorem rangeD_length (lo : Int) (n : Nat) : (rangeD lo n).length = n := by unfold rangeD; simp
theorem dwalk_range {K : PySem.W.Frag} {wo : Option (Addr × Addr)} {F : Hp} {lo : Int} {n : Nat} : DWalk K wo (Itr lo n) F (rangeD lo n) where
  go := fun i d F' H hF x e => (rangeD_get e).1
  yld := fun i d F' H x H' hF ex e y => by
    obtain ⟨e1, y⟩ := y
    subst e1
    obtain ⟨h1, h2⟩ := rangeD_get e
    subst h2
    subst y
    exact ⟨F', ex, .int _⟩
  stop := fun F' H hF x => by rw [rangeD_length]; exact Nat.le_refl _
def rng1D (ds : List D) (Q : List D → Prop) : Prop := match ds with | [.int j] => (-(2 ^ 62) ≤ j ∧ j < 2 ^ 62) ∧ Q (rangeD 0 j.toNat) | _ => False
def rng2D (ds : List D) (Q : List D → Prop) : Prop := match ds with | [.int i, .int j] => (-(2 ^ 62) ≤ i ∧ i < 2 ^ 62 ∧ -(2 ^ 62) ≤ j ∧ j < 2 ^ 62) ∧ Q (rangeD i (j - i).toNat) | _ => False
def dRng1 (ml : DTA) (en : En) (Q : List D → Prop) : Prop := ml en fun ds => rng1D ds Q
def dRng2 (ml : DTA) (en : En) (Q : List D → Prop) : Prop := ml en fun ds => rng2D ds Q
theorem di_range1 {tg : Expr} {p : Pos} (hg : Gl X "range") (hm : X.mg "range" = none) (ha : DA X c [a] ml) (hs : starEach [a] X.env = [(false, eval a X.env)] := by rfl) : DI X c tg (.Call (.Name "range" p) [a] [] pos) false (dRng1 ml) := by
  refine ⟨PI.imp (pi_range1 hg hm ha.run hs) fun σ H Q h => ?_⟩
  obtain ⟨F, en, R, r, h, k⟩ := h
  refine ⟨F, en, _, r, h, fun ds hd vs F' H' x rv _ => ?_⟩
  unfold rng1D at hd
  split at hd
  · obtain ⟨v, rfl, r1⟩ := rv.one
    cases r1
    exact ⟨_, rfl, hd.1.1, hd.1.2, k _ hd.2 _ F' H' x dwalk_range (fun z => nomatch z)⟩
  · exact hd.elim
theorem di_range2 {tg : Expr} {p : Pos} (hg : Gl X "range") (hm : X.mg "range" = none) (ha : DA X c [a, b] ml) (hs : starEach [a, b] X.env = [(false, eval a X.env), (false, eval b X.env)] := by rfl) (hs2 : starEach [b] X.env = [(false, eval b X.env)] := by rfl) : DI X c tg (.Call (.Name "range" p) [a, b] [] pos) false (dRng2 ml) := by
  refine ⟨PI.imp (pi_range2 hg hm ha.run hs hs2) fun σ H Q h => ?_⟩
  obtain ⟨F, en, R, r, h, k⟩ := h
  refine ⟨F, en, _, r, h, fun ds hd vs F' H' x rv _ => ?_⟩
  unfold rng2D at hd
  split at hd
  · obtain ⟨v, u, rfl, r1, r2⟩ := rv.two
    cases r1; cases r2
    exact ⟨_, _, rfl, hd.1, k _ hd.2 _ F' H' x dwalk_range (fun z => nomatch z)⟩
  · exact hd.elim

def wipeE (en : En) : List Nat → En
  | [] => en
  | v :: vs => (wipeE en vs).set v .un
theorem SR.wipe {K : PySem.W.Frag} {F H : Hp} {σ : St} {en : En} (r : SR K c F σ H en) : ∀ vs : List Nat, SR K c F (L2.wipe σ vs) H (wipeE en vs)
  | [] => r
  | v :: vs => (SR.wipe r vs).setS (ov := none) rfl trivial
theorem wipe_get {σ : St} : ∀ {vs : List Nat} {i : Nat}, (L2.wipe σ vs)[i]? = if i ∈ vs then (if i < σ.length then some none else none) else σ[i]?
  | [], i => by simp [L2.wipe]
  | v :: vs, i => by
    show ((L2.wipe σ vs).set v none)[i]? = _
    by_cases q : v = i
    · subst q
      by_cases hl : v < σ.length
      · rw [List.getElem?_set_self (by rw [wipe_length]; exact hl)]
        simp [hl]
      · rw [List.getElem?_eq_none (by rw [List.length_set, wipe_length]; omega)]
        simp [hl]
    · rw [List.getElem?_set_ne q, wipe_get]
      have e : (i ∈ v :: vs) ↔ i ∈ vs := ⟨fun h => by
        rcases List.mem_cons.mp h with h | h
        · exact absurd h.symm q
        · exact h, List.mem_cons_of_mem _⟩
      by_cases h : i ∈ vs
      · rw [if_pos h, if_pos (e.mpr h)]
      · rw [if_neg h, if_neg fun z => h (e.mp z)]
theorem wipe_same {σ σ' : St} {vs : List Nat} (hl : σ'.length = σ.length) (h : ∀ i, i ∉ vs → σ'[i]? = (L2.wipe σ vs)[i]?) : L2.wipe σ' vs = L2.wipe σ vs := by
  refine List.ext_getElem? fun i => ?_
  by_cases q : i ∈ vs
  · rw [wipe_get, wipe_get, if_pos q, if_pos q, hl]
  · rw [wipe_get, if_neg q, h i q]
/-- the tests of a comprehension -/
structure DTs (X : Cx) (c : Ct) (ifs : List Expr) (m : DTT) : Prop where
  run : PTs X ifs (liftT X.K c m)
def dYes (_x : En) (Q : Bool → Prop) : Prop := Q true
theorem dts_nil : DTs X c [] dYes := by
  refine ⟨⟨fun pins s σ H Q I h => pts_nil.run pins s σ H Q I ?_⟩⟩
  obtain ⟨F, en, R, r, h, k⟩ := h
  exact k _ h F H r.ext.self
theorem dts_one (h : DT X c e mt) : DTs X c [e] mt := ⟨pts_one h.run⟩
/-- a comprehension over known items -/
def LcW (z : Bool) (g : DTG) (mt : DTT) (me : DTE) (vs : List Nat) (ds : List D) (en : En) (Q : D → Prop) : Prop := (z = false → ds.length ≤ sizeLine) ∧ ∃ W : Nat → List D → Prop, W 0 [] ∧
  (∀ i d acc, ds[i]? = some d → acc.length ≤ i → W i acc → g d (wipeE en vs) fun en' => mt en' fun b => Cnd b (me en' fun y => W (i + 1) (acc ++ [y])) (W (i + 1) acc)) ∧ ∀ acc, acc.length ≤ ds.length → W ds.length acc → Q (.list acc)
def dLc (z : Bool) (mi : DTA) (g : DTG) (mt : DTT) (me : DTE) (vs : List Nat) (en : En) (Q : D → Prop) : Prop := mi en fun ds => LcW z g mt me vs ds en Q
theorem lift_lc {K : PySem.W.Frag} {z : Bool} {mi : DTA} {g : DTG} {mt : DTT} {me : DTE} {vs sl : List Nat} (hsl : ∀ i ∈ sl, i ∈ vs) {σ : St} {H : Hp} {Q : VK} (h : liftE K c (dLc z mi g mt me vs) σ H Q) :
    tLc (liftI K c z mi) (liftG K c sl g) (liftT K c mt) (liftE K c me) vs σ H Q := by
  obtain ⟨F, en, R, r, h, k⟩ := h
  refine ⟨F, en, _, r, h, fun ds hd J F1 H1 x1 w hz => ?_⟩
  intro D1 hD
  obtain ⟨hlen, W, w0, turn, fin⟩ := hd
  have hl : ds.length ≤ sizeLine := by
    cases z with
    | true => exact hz rfl
    | false => exact hlen rfl
  have fD : F1 D1 = none := by
    cases q : F1 D1 with
    | none => rfl
    | some u => rw [x1.fh _ _ q] at hD; cases hD
  refine ⟨fun i m Hc => m = ds.length - i ∧ i ≤ ds.length ∧ ∃ Fc acc vacc, Ext c.wo F1 H1 Fc Hc ∧ Hc D1 = some (.lst vacc) ∧ Fc D1 = none ∧ Reps K Fc vacc acc ∧ acc.length ≤ i ∧ W i acc,
    ⟨ds.length, by simp, Nat.zero_le _, F1, [], [], x1.self.poke hD fD (x1.wne hD), upd_same, fD, .nil, Nat.le_refl _, w0⟩, ?_⟩
  rintro i m Hc ⟨rfl, hi, Fc, acc, vacc, xc, hc, fc, rc, hacc, wc⟩
  by_cases hlt : i < ds.length
  · have ed : ds[i]? = some ds[i] := List.getElem?_eq_getElem hlt
    refine .inr ⟨w.go i _ Fc Hc xc.ff xc.self ed, fun H' => ∃ Fc acc vacc, Ext c.wo F1 H1 Fc H' ∧ H' D1 = some (.lst vacc) ∧ Fc D1 = none ∧ Reps K Fc vacc acc ∧ acc.length ≤ i + 1 ∧ W (i + 1) acc, fun H' h' => ⟨ds.length - (i + 1), by omega, rfl, hlt, h'⟩, fun x H' y => ?_⟩
    obtain ⟨F2, x2, rx⟩ := w.yld i _ Fc Hc x H' xc.ff xc.self ed y
    have nD : ∀ {F3 H3 : Hp}, Ext c.wo Fc Hc F3 H3 → H3 D1 = some (.lst vacc) ∧ F3 D1 = none := fun {F3 H3} x3 => by
      refine ⟨x3.hh _ _ hc fun ⟨d, q⟩ => (x1.wne hD _ q).1 rfl, ?_⟩
      cases q : F3 D1 with
      | none => rfl
      | some u =>
        have := x3.nw _ _ q fc
        rw [hc] at this; rcases this with this | ⟨_, this⟩ <;> cases this
    have r0 := ((r.grow x1).grow xc).grow x2
    refine ⟨F2, wipeE en vs, ds[i], _, r0.wipe vs, rx, turn i _ acc ed hacc wc, fun en' σ' h' r' k' => ?_⟩
    refine ⟨wipe_same (k'.1.trans (wipe_length _ _)) fun j hj => k'.2 j fun z => hj (hsl j z), F2, en', _, r', h', fun bb hb F3 H3 x3 => ?_⟩
    cases bb with
    | true =>
      refine ⟨F3, en', _, r'.grow x3, hb, fun yd hy yv F4 H4 x4 ry => ?_⟩
      have xx := x2.trans (x3.trans x4)
      obtain ⟨n1, n2⟩ := nD xx
      refine ⟨vacc, n1, by rw [rc.len]; omega, F4, acc ++ [yd], vacc ++ [yv], (xc.trans xx).poke hD n2 (x1.wne hD), upd_same, n2, (Reps.mono xx.ff _ _ rc).append (.cons ry .nil), by rw [List.length_append, List.length_singleton]; omega, hy⟩
    | false =>
      have xx := x2.trans x3
      obtain ⟨n1, n2⟩ := nD xx
      exact ⟨F3, acc, vacc, xc.trans xx, n1, n2, Reps.mono xx.ff _ _ rc, by omega, hb⟩
  · have e : i = ds.length := by omega
    subst e
    refine .inl ⟨w.stop Fc Hc xc.ff xc.self, ?_⟩
    have hD0 : H D1 = none := x1.back hD
    refine k _ (fin acc hacc wc) _ (upd Fc D1 (.lst vacc)) Hc ?_ (.lst upd_same (Reps.mono (fun b o q => by rw [upd_ne (ne_of_none q fc)]; exact q) _ _ rc) (Nat.le_trans hacc hl))
    have x := x1.trans xc
    refine ⟨fun b o q => by rw [upd_ne (ne_of_none (x.ff b o q) fc)]; exact x.ff b o q, fun b o q => ?_, x.hh, fun b o q n => ?_, x.wk⟩
    · by_cases zz : b = D1
      · subst zz; rw [upd_same] at q; cases q; exact hc
      · rw [upd_ne zz] at q; exact x.fh b o q
    · by_cases zz : b = D1
      · subst zz; exact .inl hD0
      · rw [upd_ne zz] at q; exact x.nw b o q n
end
end Lay
namespace Lay
open PySem PySem.Spec L2
open PyProof.Rows hiding St

section
variable {X : Cx} {c : Ct} {e a b : Expr} {es : List Expr} {m ma mb : DTE} {ml : DTA} {mt mu : DTT} {pos : Pos}
theorem de_lc {elt tg iter : Expr} {ifs : List Expr} {scope : Scope} {own : List (Str × Nat)} {sl : List Nat} {z : Bool} {mi : DTA} {g : DTG} {me : DTE} (hc : X.calm = true) (hN : X.N.Nodup) (hi : DI X c tg iter z mi) (ok : BlkOk X.N X.env.scope scope own)
    (hg : ∀ (s : Shared) (H : Hp) (C : Addr) (cl : List (Str × Addr)) (fp : List Addr), DG (X.blk s H scope (compEnvC scope cl C X.env) fp) c tg sl g) (ht : ∀ (s : Shared) (H : Hp) (C : Addr) (cl : List (Str × Addr)) (fp : List Addr), DTs (X.blk s H scope (compEnvC scope cl C X.env) fp) c ifs mt)
    (he : ∀ (s : Shared) (H : Hp) (C : Addr) (cl : List (Str × Addr)) (fp : List Addr), DE (X.blk s H scope (compEnvC scope cl C X.env) fp) c elt me) (hsl : ∀ i ∈ sl, i ∈ own.map (·.2) := by decide) (hs : ∀ x, foldedSetIterable iter X.env x = pure x := by intro _; rfl) :
    DE X c (.ListComp elt [⟨tg, iter, ifs, 0⟩] scope pos) (dLc z mi g mt me (own.map (·.2))) :=
  ⟨PE.imp (pe_lc hc hN hi.run ok (fun s H C cl fp => (hg s H C cl fp).run) (fun s H C cl fp => (ht s H C cl fp).run) (fun s H C cl fp => (he s H C cl fp).run) hs) fun _ _ _ h => lift_lc hsl h⟩

structure DEnds where
  nx : En → Prop
  rt : D → Prop
  bk : En → Prop := fun _ => False
  ct : En → Prop := fun _ => False
abbrev DTS := DEnds → En → Prop
def Sub (F F' : Hp) : Prop := ∀ a o, F a = some o → F' a = some o
theorem Sub.refl {F : Hp} : Sub F F := fun _ _ e => e
theorem Sub.trans {F F1 F2 : Hp} (a : Sub F F1) (b : Sub F1 F2) : Sub F F2 := fun x o e => b x o (a x o e)
/-- what is wanted behind, by data, serves what is wanted by the heap -/
structure EndsOk (K : PySem.W.Frag) (c : Ct) (F : Hp) (R : DEnds) (D : Ends) : Prop where
  nx : ∀ en' σ' F' H', R.nx en' → SR K c F' σ' H' en' → Sub F F' → D.nx σ' H'
  rt : ∀ d v F' H', R.rt d → Ext c.wo c.F_0 c.H_0 F' H' → Rep K F' v d → D.rt v H'
  bk : ∀ en' σ' F' H', R.bk en' → SR K c F' σ' H' en' → Sub F F' → D.bk σ' H'
  ct : ∀ en' σ' F' H', R.ct en' → SR K c F' σ' H' en' → Sub F F' → D.ct σ' H'
theorem EndsOk.later {K : PySem.W.Frag} {F F1 : Hp} {R : DEnds} {D : Ends} (h : EndsOk K c F R D) (s : Sub F F1) : EndsOk K c F1 R D :=
  ⟨fun en σ F' H' a b k => h.nx en σ F' H' a b (s.trans k), h.rt, fun en σ F' H' a b k => h.bk en σ F' H' a b (s.trans k), fun en σ F' H' a b k => h.ct en σ F' H' a b (s.trans k)⟩
def liftS (K : PySem.W.Frag) (c : Ct) (m : DTS) : TS := fun D σ H => ∃ F en R, SR K c F σ H en ∧ m R en ∧ EndsOk K c F R D
structure DS (X : Cx) (c : Ct) (st : Stmt) (m : DTS) : Prop where
  run : PS X st (liftS X.K c m)
structure DSs (X : Cx) (c : Ct) (st : List Stmt) (m : DTS) : Prop where
  run : PSs X st (liftS X.K c m)
theorem PS.imp {X : Cx} {e : Stmt} {t t' : TS} (h : PS X e t) (k : ∀ D σ H, t' D σ H → t D σ H) : PS X e t' := ⟨fun pins s σ H D I q => h.run pins s σ H D I (k _ _ _ q)⟩
theorem PSs.imp {X : Cx} {e : List Stmt} {t t' : TS} (h : PSs X e t) (k : ∀ D σ H, t' D σ H → t D σ H) : PSs X e t' := ⟨fun pins s σ H D I q => h.run pins s σ H D I (k _ _ _ q)⟩
variable {st : Stmt} {sts : List Stmt} {s1 s2 : DTS}
def dSkip (R : DEnds) (en : En) : Prop := R.nx en
/-- the rest of a block -/
def Then (s2 : DTS) (R : DEnds) (en : En) : Prop := s2 R en
def dSeq (s1 s2 : DTS) (R : DEnds) (en : En) : Prop := s1 { R with nx := Then s2 R } en
theorem dss_nil : DSs X c [] dSkip := ⟨PSs.imp pss_nil fun D σ H ⟨F, en, R, r, h, k⟩ => k.nx _ _ F H h r .refl⟩
theorem dss_cons (h1 : DS X c st s1) (h2 : DSs X c sts s2) : DSs X c (st :: sts) (dSeq s1 s2) := by
  refine ⟨PSs.imp (pss_cons h1.run h2.run) fun D σ H h => ?_⟩
  obtain ⟨F, en, R, r, h, k⟩ := h
  exact ⟨F, en, _, r, h, fun en' σ' F' H' h' r' s' => ⟨F', en', R, r', h', k.later s'⟩, k.rt, k.bk, k.ct⟩
theorem dss_one (h1 : DS X c st s1) : DSs X c [st] s1 := ⟨pss_one h1.run⟩
def dPass (R : DEnds) (en : En) : Prop := R.nx en
def dBreak (R : DEnds) (en : En) : Prop := R.bk en
def dCont (R : DEnds) (en : En) : Prop := R.ct en
theorem ds_pass : DS X c (.Pass pos) dPass := ⟨PS.imp ps_pass fun D σ H ⟨F, en, R, r, h, k⟩ => k.nx _ _ F H h r .refl⟩
theorem ds_break : DS X c (.Break pos) dBreak := ⟨PS.imp ps_break fun D σ H ⟨F, en, R, r, h, k⟩ => k.bk _ _ F H h r .refl⟩
theorem ds_continue : DS X c (.Continue pos) dCont := ⟨PS.imp ps_continue fun D σ H ⟨F, en, R, r, h, k⟩ => k.ct _ _ F H h r .refl⟩
def dRet (m : DTE) (R : DEnds) (en : En) : Prop := m en R.rt
theorem ds_ret (h : DE X c e m) : DS X c (.Return (some e) pos) (dRet m) := by
  refine ⟨PS.imp (ps_ret h.run) fun D σ H h => ?_⟩
  obtain ⟨F, en, R, r, h, k⟩ := h
  exact ⟨F, en, _, r, h, fun d hd v F' H' x rv => k.rt d v F' H' hd (r.ext.trans x) rv⟩
def dRetN (R : DEnds) (_x : En) : Prop := R.rt .none
theorem ds_retN : DS X c (.Return none pos) dRetN := ⟨PS.imp ps_retN fun D σ H ⟨F, en, R, r, h, k⟩ => k.rt _ _ F H h r.ext .non⟩
/-- an expression whose value is dropped -/
def dDrop (m : DTE) (R : DEnds) (en : En) : Prop := m en fun _ => R.nx en
theorem ds_expr (h : DE X c e m) (hs : swapsWith e none pos.line X.env = pure false := by rfl) : DS X c (.Expr e pos) (dDrop m) := by
  refine ⟨PS.imp (ps_expr h.run hs) fun D σ H h => ?_⟩
  obtain ⟨F, en, R, r, h, k⟩ := h
  exact ⟨F, en, _, r, h, fun d hd v F' H' x rv => k.nx en σ F' H' hd (r.grow x) x.ff⟩
def dCond (mt : DTT) (s1 s2 : DTS) (R : DEnds) (en : En) : Prop := mt en fun b => Cnd b (s1 R en) (s2 R en)
theorem ds_if {st1 st2 : List Stmt} (ht : DT X c e mt) (h1 : DSs X c st1 s1) (h2 : DSs X c st2 s2) : DS X c (.If e st1 st2 pos) (dCond mt s1 s2) := by
  refine ⟨PS.imp (ps_if ht.run h1.run h2.run) fun D σ H h => ?_⟩
  obtain ⟨F, en, R, r, h, k⟩ := h
  refine ⟨F, en, _, r, h, fun i hd F' H' x => ?_⟩
  cases i with
  | false => exact ⟨F', en, R, r.grow x, hd, k.later x.ff⟩
  | true => exact ⟨F', en, R, r.grow x, hd, k.later x.ff⟩
/-- an owned list becomes a value -/
def frz1 (s : Sl) (K : List D → Prop) (L : Prop) : Prop := match s with | .own xs => K xs | _ => L
def dFrz (i : Nat) (m : DTS) (R : DEnds) (en : En) : Prop := frz1 (gt en i) (fun xs => m R (en.set i (.val (.list xs)))) (m R en)
theorem lift_frz {K : PySem.W.Frag} {i : Nat} {m : DTS} {D : Ends} {σ : St} {H : Hp} (h : liftS K c (dFrz i m) D σ H) : liftS K c m D σ H := by
  obtain ⟨F, en, R, r, h, k⟩ := h
  unfold dFrz frz1 at h
  split at h
  · rename_i xs hg
    obtain ⟨F', x, s, r'⟩ := r.freeze (gt_get hg (fun z => nomatch z))
    exact ⟨F', _, R, r', h, k.later s⟩
  · exact ⟨F, en, R, r, h, k⟩
theorem ds_frz (i : Nat) (h : DS X c st s1) : DS X c st (dFrz i s1) := ⟨PS.imp h.run fun _ _ _ q => lift_frz q⟩
theorem dss_frz (i : Nat) (h : DSs X c sts s1) : DSs X c sts (dFrz i s1) := ⟨PSs.imp h.run fun _ _ _ q => lift_frz q⟩
/-- target = e -/
def dAsg (m : DTE) (g : DTG) (R : DEnds) (en : En) : Prop := m en fun d => g d en R.nx
theorem lift_asg {K : PySem.W.Frag} {sl : List Nat} {g : DTG} {D : Ends} {σ : St} {H : Hp} (h : liftS K c (dAsg m g) D σ H) : tAsg (liftE K c m) (liftG K c sl g) D σ H := by
  obtain ⟨F, en, R, r, h, k⟩ := h
  refine ⟨F, en, _, r, h, fun d hd v F' H' x rv => ?_⟩
  exact ⟨F', en, d, _, r.grow x, rv, hd, fun en' σ' h' r' _ => k.nx en' σ' F' H' h' r' x.ff⟩
theorem ds_asg {tg : Expr} {sl : List Nat} {g : DTG} (he : DE X c e m) (hg : DG X c tg sl g) (hs : swapsWithSole [tg] e pos.line X.env = pure false := by rfl) (hw : swappedStores [tg] e X.env = pure none := by rfl)
    (h1 : (assignEach [tg] X.env).map (·.2) = [assign tg X.env] := by rfl) : DS X c (.Assign [tg] e pos) (dAsg m g) :=
  ⟨PS.imp (ps_asg he.run hg.run hs hw h1) fun _ _ _ h => lift_asg h⟩
theorem ds_set {i : Nat} {x : Str} {pos' : Pos} (hN : X.N.Nodup) (hi : X.N[i]? = some x) (hx : Loc X.env.scope x) (he : DE X c e m) (hs : swapsWith e (some (.Name x pos')) pos.line X.env = pure false := by rfl) (hf : X.fn x = true ∨ X.env.scope.names.lookup x = some .local := by first | exact .inl rfl | exact .inr rfl | assumption) :
    DS X c (.Assign [.Name x pos'] e pos) (dAsg m (gNm i)) := by
  refine ⟨PS.imp (ps_set (i := i) hN hi hx he.run hs hf) fun D σ H h => ?_⟩
  obtain ⟨F, en, R, r, h, k⟩ := h
  refine ⟨F, en, _, r, h, fun d hd v F' H' x rv => ?_⟩
  exact k.nx _ _ F' H' hd ((r.grow x).set rv) x.ff
/-- x = [..] : the def's own list -/
def dOwn (i : Nat) (ml : DTA) (R : DEnds) (en : En) : Prop := ml en fun ds => R.nx (en.set i (.own ds))
theorem ds_own {i : Nat} {x : Str} {pos' : Pos} (hN : X.N.Nodup) (hi : X.N[i]? = some x) (hx : Loc X.env.scope x) (ha : DA X c es ml) (hz : es.length ≤ sizeLine := by decide) (hs : swapsWith (.List es pos) (some (.Name x pos')) pos.line X.env = pure false := by rfl) (hf : X.fn x = true ∨ X.env.scope.names.lookup x = some .local := by first | exact .inl rfl | exact .inr rfl | assumption) {spos : Pos} (hs' : swapsWith (.List es pos) (some (.Name x pos')) spos.line X.env = pure false := by rfl) :
    DS X c (.Assign [.Name x pos'] (.List es pos) spos) (dOwn i ml) := by
  refine ⟨PS.imp (ps_set (i := i) hN hi hx (pe_lst ha.run) hs' hf) fun D σ H h => ?_⟩
  obtain ⟨F, en, R, r, h, k⟩ := h
  refine ⟨F, en, _, r, h, fun ds hd vs F' H' x rv hn => ⟨by rw [hn]; exact hz, fun p hp => ?_⟩⟩
  exact k.nx _ _ F' _ hd ((r.grow x).setO hp ⟨p, vs, rfl, upd_same, rv, by rw [← rv.len, hn]; exact hz⟩) x.ff
/-- x = list(e) : the def's own copy -/
def seq1 (ds : List D) (Q : List D → Prop) : Prop := match ds with | [.list xs] => Q xs | [.tuple xs] => Q xs | _ => False
def dOwnL (i : Nat) (ml : DTA) (R : DEnds) (en : En) : Prop := ml en fun ds => seq1 ds fun xs => R.nx (en.set i (.own xs))
theorem ds_ownL {i : Nat} {x : Str} {p pos' spos : Pos} (hg : Gl X "list") (hm : X.mg "list" = none) (hN : X.N.Nodup) (hi : X.N[i]? = some x) (hx : Loc X.env.scope x) (ha : DA X c [a] ml) (hs : swapsWith (.Call (.Name "list" p) [a] [] pos) (some (.Name x pos')) spos.line X.env = pure false := by rfl)
    (he : starEach [a] X.env = (false, eval a X.env) :: starEach [] X.env := by rfl) (hpl : (backTo pos (starEach [] X.env)).any (·.1) = false := by rfl) (hf : X.fn x = true ∨ X.env.scope.names.lookup x = some .local := by first | exact .inl rfl | exact .inr rfl | assumption) :
    DS X c (.Assign [.Name x pos'] (.Call (.Name "list" p) [a] [] pos) spos) (dOwnL i ml) := by
  refine ⟨PS.imp (ps_set (i := i) hN hi hx (pe_callTy call_list_of hg hm boot_list ha.run (by decide) (by decide) he hpl) hs hf) fun D σ H h => ?_⟩
  obtain ⟨F, en, R, r, h, k⟩ := h
  refine ⟨F, en, _, r, h, fun ds hd vs F' H' x rv hn => ?_⟩
  unfold seq1 at hd
  split at hd
  · obtain ⟨v, rfl, r1⟩ := rv.one
    obtain ⟨p, ys, rfl, g1, g2, g3⟩ := r1.lstI
    refine ⟨p, ys, rfl, .inl (SqL.of (x.fh _ _ g1)), fun l hl => ?_⟩
    exact k.nx _ _ F' _ hd ((r.grow x).setO hl ⟨l, ys, rfl, upd_same, g2, g3⟩) x.ff
  · obtain ⟨v, rfl, r1⟩ := rv.one
    obtain ⟨p, ys, rfl, g1, g2, g3⟩ := r1.tupI
    refine ⟨p, ys, rfl, .inr (sqT_mono x.fh g1), fun l hl => ?_⟩
    exact k.nx _ _ F' _ hd ((r.grow x).setO hl ⟨l, ys, rfl, upd_same, g2, g3⟩) x.ff
  · exact hd.elim
/-- x = [.. for ..] on one line -/
theorem ds_setLc {i : Nat} {y : Str} {py : Pos} {elt tg iter : Expr} {ifs : List Expr} {scope : Scope} {own : List (Str × Nat)} {sl : List Nat} {z : Bool} {mi : DTA} {g : DTG} {me : DTE} {spos : Pos} (hc : X.calm = true) (hN : X.N.Nodup) (hy : X.N[i]? = some y) (hyl : X.env.scope.names.lookup y = some .local)
    (hsw : swapsWith (.ListComp elt [⟨tg, iter, ifs, 0⟩] scope pos) (some (.Name y py)) spos.line X.env = pure true) (hi : DI X c tg iter z mi) (ok : BlkOk X.N X.env.scope scope own)
    (hg : ∀ (s : Shared) (H : Hp) (C : Addr) (cl : List (Str × Addr)) (fp : List Addr), DG (X.blk s H scope (compEnvC scope cl C X.env) fp) c tg sl g) (ht : ∀ (s : Shared) (H : Hp) (C : Addr) (cl : List (Str × Addr)) (fp : List Addr), DTs (X.blk s H scope (compEnvC scope cl C X.env) fp) c ifs mt)
    (he : ∀ (s : Shared) (H : Hp) (C : Addr) (cl : List (Str × Addr)) (fp : List Addr), DE (X.blk s H scope (compEnvC scope cl C X.env) fp) c elt me) (hsl : ∀ i ∈ sl, i ∈ own.map (·.2) := by decide) (hs : ∀ x, foldedSetIterable iter X.env x = pure x := by intro _; rfl) :
    DS X c (.Assign [.Name y py] (.ListComp elt [⟨tg, iter, ifs, 0⟩] scope pos) spos) (dAsg (dLc z mi g mt me (own.map (·.2))) (gNm i)) := by
  refine ⟨PS.imp (ps_setLc (te := liftE X.K c me) (tt := liftT X.K c mt) (g := liftG X.K c sl g) (i := i) hc hN hy hyl hsw hi.run ok (fun s H C cl fp => (hg s H C cl fp).run) (fun s H C cl fp => (ht s H C cl fp).run) (fun s H C cl fp => (he s H C cl fp).run) hs) fun D σ H h => ?_⟩
  obtain ⟨F, en, R, r, h, k⟩ := h
  refine lift_lc hsl ⟨F, en, _, r, h, fun d hd v F' H' x rv => ?_⟩
  exact k.nx _ _ F' H' hd ((r.grow x).set rv) x.ff
/-- a, b = e1, e2: two names at once -/
def par2 (i j : Nat) (ds : List D) (en : En) (Q : En → Prop) : Prop := match ds with | [d, e] => Q ((en.set i (.val d)).set j (.val e)) | _ => False
def dPar (i j : Nat) (ml : DTA) (R : DEnds) (en : En) : Prop := ml en fun ds => par2 i j ds en R.nx
theorem ds_par {i j : Nat} {x y : Str} {px py pt : Pos} {kt k2 pt2} (hc : X.calm = true) (hN : X.N.Nodup) (hi : X.N[i]? = some x) (hj : X.N[j]? = some y) (hij : i ≠ j)
    (hx : X.env.scope.names.lookup x = some .local) (hy : X.env.scope.names.lookup y = some .local) (ha : DA X c [a, b] ml)
    (hw : swappedStores [.Tuple [.Name x px, .Name y py] kt pt] (.Tuple [a, b] k2 pt2) X.env = pure (some [x, y]))
    (hs : swapsWithSole [.Tuple [.Name x px, .Name y py] kt pt] (.Tuple [a, b] k2 pt2) pos.line X.env = pure false := by rfl) :
    DS X c (.Assign [.Tuple [.Name x px, .Name y py] kt pt] (.Tuple [a, b] k2 pt2) pos) (dPar i j ml) := by
  refine ⟨PS.imp (ps_par hc hN hi hj hij hx hy ha.run hw hs) fun D σ H h => ?_⟩
  obtain ⟨F, en, R, r, h, k⟩ := h
  refine ⟨F, en, _, r, h, fun ds hd vs F' H' x rv hn => ?_⟩
  unfold par2 at hd
  split at hd
  · obtain ⟨v, u, rfl, r1, r2⟩ := rv.two
    exact ⟨v, u, rfl, k.nx _ _ F' H' hd (((r.grow x).set r1).set r2) x.ff⟩
  · exact hd.elim
/-- x op= e, ints -/
def dAug (i : Nat) (f : Int → Int → Int) (m : DTE) (R : DEnds) (en : En) : Prop := onVal (gt en i) fun x => onInt x fun k => m en fun d => onInt d fun j => R.nx (en.set i (.val (.int (f k j))))
theorem ds_aug {i : Nat} {x : Str} {op : Operator} {f : Int → Int → Int} {pos' : Pos} (ho : PIp X op (ipI f)) (hN : X.N.Nodup) (hi : X.N[i]? = some x) (hx : Loc X.env.scope x) (he : DE X c e m) (hf : X.fn x = true ∨ X.env.scope.names.lookup x = some .local := by first | exact .inl rfl | exact .inr rfl | assumption) :
    DS X c (.AugAssign (.Name x pos') op e pos) (dAug i f m) := by
  refine ⟨PS.imp (ps_aug (i := i) hN hi hx he.run ho hf) fun D σ H h => ?_⟩
  obtain ⟨F, en, R, r, h, k⟩ := h
  unfold dAug onVal at h
  split at h
  · rename_i z hg
    obtain ⟨ov, e1, v, e2, e3⟩ := r.sl i _ (gt_get hg (fun z => nomatch z))
    subst e2
    cases z with
    | int z =>
      cases e3
      refine ⟨_, e1, F, en, _, r, h, fun d hd u F' H' x rv => ?_⟩
      cases d with
      | int j =>
        cases rv
        exact ⟨z, j, rfl, rfl, k.nx _ _ F' H' hd ((r.grow x).set (.int _)) x.ff⟩
      | _ => exact False.elim hd
    | _ => exact False.elim h
  · exact h.elim
/-- x.append(e), x the def's own list -/
def dApp (i : Nat) (m : DTE) (R : DEnds) (en : En) : Prop := onOwn (gt en i) fun xs => m en fun d => xs.length < sizeLine ∧ R.nx (en.set i (.own (xs ++ [d])))
theorem lift_app {K : PySem.W.Frag} {i : Nat} {D : Ends} {σ : St} {H : Hp} (h : liftS K c (dApp i m) D σ H) : tDrop (tBM K "list" rAppend (tVar i) (tCons (liftE K c m) tNil)) D σ H := by
  obtain ⟨F, en, R, r, h, k⟩ := h
  unfold dApp onOwn at h
  split at h
  · rename_i xs hg
    have hen := gt_get hg (fun z => nomatch z)
    obtain ⟨ov, e1, p, vs, e2, e3, e4, e5⟩ := r.sl i _ hen
    subst e2
    refine ⟨_, e1, .inl ⟨rfl, _, SqL.of e3⟩, F, en, _, r, h, fun d hd u F' H' x rv => ?_⟩
    have g := r.grow x
    have ha : ownAt σ en i p := ⟨e1, _, hen, rfl⟩
    have e3' := x.hh _ _ e3 (r.notW ha)
    have e4' := Reps.mono x.ff _ _ e4
    refine ⟨p, vs, u, rfl, rfl, e3', by rw [e4.len]; exact hd.1, ?_⟩
    refine k.nx _ _ F' _ hd.2 (g.turn ha ⟨p, _, rfl, upd_same, e4'.append (.cons rv .nil), ?_⟩) x.ff
    rw [List.length_append, List.length_singleton]
    exact hd.1
  · exact h.elim
theorem ds_app {i : Nat} {x : Str} {px ap spos : Pos} (hN : X.N[i]? = some x) (hv : Vis X.env.scope x) (ha : DE X c e m) (hb : attributeBase (.Name x px) "append" X.env (eval (.Name x px) X.env) = eval (.Name x px) X.env := by rfl)
    (hp : PE X (.Call (.Attribute (.Name x px) "append" ap) [e] [] pos) (tBM X.K "list" rAppend (tVar i) (tCons (liftE X.K c m) tNil)))
    (hs : swapsWith (.Call (.Attribute (.Name x px) "append" ap) [e] [] pos) none spos.line X.env = pure false := by rfl) : DS X c (.Expr (.Call (.Attribute (.Name x px) "append" ap) [e] [] pos) spos) (dApp i m) :=
  ⟨PS.imp (ps_expr hp hs) fun _ _ _ h => lift_app h⟩
/-- x.extend(e) -/
def onLst (d : D) (K : List D → Prop) : Prop := match d with | .list ds => K ds | _ => False
def dExt (i : Nat) (m : DTE) (R : DEnds) (en : En) : Prop := onOwn (gt en i) fun xs => m en fun d => onLst d fun ys => xs.length + ys.length ≤ sizeLine ∧ R.nx (en.set i (.own (xs ++ ys)))
theorem lift_ext {K : PySem.W.Frag} {i : Nat} {D : Ends} {σ : St} {H : Hp} (h : liftS K c (dExt i m) D σ H) : tDrop (tBM K "list" rExtend (tVar i) (tCons (liftE K c m) tNil)) D σ H := by
  obtain ⟨F, en, R, r, h, k⟩ := h
  unfold dExt onOwn at h
  split at h
  · rename_i xs hg
    have hen := gt_get hg (fun z => nomatch z)
    obtain ⟨ov, e1, p, vs, e2, e3, e4, e5⟩ := r.sl i _ hen
    subst e2
    refine ⟨_, e1, .inl ⟨rfl, _, SqL.of e3⟩, F, en, _, r, h, fun d hd u F' H' x rv => ?_⟩
    cases d with
    | list ys =>
      obtain ⟨q, us, rfl, g1, g2, g3⟩ := rv.lstI
      have g := r.grow x
      have ha : ownAt σ en i p := ⟨e1, _, hen, rfl⟩
      have e3' := x.hh _ _ e3 (r.notW ha)
      have e4' := Reps.mono x.ff _ _ e4
      refine ⟨p, q, vs, us, rfl, rfl, e3', x.fh _ _ g1, by rw [e4.len, g2.len]; exact hd.1, ?_⟩
      refine k.nx _ _ F' _ hd.2 (g.turn ha ⟨p, _, rfl, upd_same, e4'.append g2, ?_⟩) x.ff
      rw [List.length_append]
      exact hd.1
    | _ => exact False.elim hd
  · exact h.elim
theorem ds_ext {i : Nat} {x : Str} {px ap spos : Pos} (ha : DE X c e m)
    (hp : PE X (.Call (.Attribute (.Name x px) "extend" ap) [e] [] pos) (tBM X.K "list" rExtend (tVar i) (tCons (liftE X.K c m) tNil)))
    (hs : swapsWith (.Call (.Attribute (.Name x px) "extend" ap) [e] [] pos) none spos.line X.env = pure false := by rfl) : DS X c (.Expr (.Call (.Attribute (.Name x px) "extend" ap) [e] [] pos) spos) (dExt i m) :=
  ⟨PS.imp (ps_expr hp hs) fun _ _ _ h => lift_ext h⟩
def dWhile (mt : DTT) (s1 : DTS) (R : DEnds) (en : En) : Prop := ∃ W : Nat → En → Prop, (∃ n, W n en) ∧ ∀ n en, W n en → mt en fun b => Cnd b (s1 { nx := fun en' => ∃ m, m < n ∧ W m en', ct := fun en' => ∃ m, m < n ∧ W m en', bk := R.nx, rt := R.rt } en) (R.nx en)
theorem ds_while {body : List Stmt} (hp : PassesOwn (model X.prog X.w) X.A X.env X.xe) (ht : DT X c e mt) (hb : DSs X c body s1) : DS X c (.While e body [] pos) (dWhile mt s1) := by
  refine ⟨PS.imp (ps_while hp ht.run hb.run) fun D σ H h => ?_⟩
  obtain ⟨F, en, R, r, ⟨W, ⟨n0, w0⟩, turn⟩, k⟩ := h
  refine ⟨fun n σ H => ∃ F' en, SR X.K c F' σ H en ∧ Sub F F' ∧ W n en, ⟨n0, F, en, r, .refl, w0⟩, ?_⟩
  rintro n σ1 H1 ⟨F1, en1, r1, s1', w1⟩
  refine ⟨F1, en1, _, r1, turn n en1 w1, fun b hb F2 H2 x2 => ?_⟩
  have s2 := s1'.trans x2.ff
  cases b with
  | true =>
    refine ⟨fun σ' H' => ∃ m, m < n ∧ ∃ F' en, SR X.K c F' σ' H' en ∧ Sub F F' ∧ W m en, fun σ' H' ⟨m, hm, z⟩ => ⟨m, hm, z⟩, F2, en1, _, r1.grow x2, hb, ?_, k.rt, ?_, ?_⟩
    · rintro en' σ' F' H' ⟨m, hm, wm⟩ r' sb
      exact ⟨m, hm, F', en', r', s2.trans sb, wm⟩
    · exact fun en' σ' F' H' a b q => k.nx en' σ' F' H' a b (s2.trans q)
    · rintro en' σ' F' H' ⟨m, hm, wm⟩ r' sb
      exact ⟨m, hm, F', en', r', s2.trans sb, wm⟩
  | false => exact k.nx _ _ F2 H2 hb (r1.grow x2) s2
/-- a loop over known items -/
def ForW (g : DTG) (s1 : DTS) (ds : List D) (R : DEnds) (en : En) : Prop := ∃ W : Nat → En → Prop, W 0 en ∧ (∀ i d, ds[i]? = some d → ∀ en, W i en → g d en fun en' => s1 { nx := W (i + 1), ct := W (i + 1), bk := R.nx, rt := R.rt } en') ∧ ∀ en, W ds.length en → R.nx en
def dFor (mi : DTA) (g : DTG) (s1 : DTS) (R : DEnds) (en : En) : Prop := mi en fun ds => ForW g s1 ds R en
theorem ds_for {tg iter : Expr} {body : List Stmt} {z : Bool} {mi : DTA} {g : DTG} {sl : List Nat} (hp : PassesOwn (model X.prog X.w) X.A X.env X.xe) (hc : X.calm = true) (hi : DI X c tg iter z mi) (hg : DG X c tg sl g) (hb : DSs X c body s1)
    (hs : ∀ x, foldedSetIterable iter X.env x = pure x := by intro _; rfl) : DS X c (.For tg iter body [] pos) (dFor mi g s1) := by
  refine ⟨PS.imp (ps_for hp hc hi.run hg.run hb.run hs) fun D σ H h => ?_⟩
  obtain ⟨F, en, R, r, h, k⟩ := h
  refine ⟨F, en, _, r, h, fun ds hd J F1 H1 x1 w _ => ?_⟩
  obtain ⟨W, w0, turn, fin⟩ := hd
  refine ⟨fun i m σ H => m = ds.length - i ∧ i ≤ ds.length ∧ ∃ F' en, SR X.K c F' σ H en ∧ Sub F1 F' ∧ W i en, ⟨ds.length, by simp, Nat.zero_le _, F1, en, r.grow x1, .refl, w0⟩, ?_⟩
  rintro i m σ2 H2 ⟨rfl, hi2, F2, en2, r2, sb, w2⟩
  by_cases hlt : i < ds.length
  · have ed : ds[i]? = some ds[i] := List.getElem?_eq_getElem hlt
    refine .inr ⟨w.go i _ F2 H2 sb r2.ext.self ed, fun σ' H' => ∃ F' en, SR X.K c F' σ' H' en ∧ Sub F1 F' ∧ W (i + 1) en, fun σ' H' h' => ⟨ds.length - (i + 1), by omega, rfl, hlt, h'⟩, fun x H' y => ?_⟩
    obtain ⟨F3, x3, rx⟩ := w.yld i _ F2 H2 x H' sb r2.ext.self ed y
    have s3 := sb.trans x3.ff
    refine ⟨F3, en2, ds[i], _, r2.grow x3, rx, turn i _ ed en2 w2, fun en' σ' h' r' _ => ?_⟩
    refine ⟨F3, en', _, r', h', fun en4 σ4 F4 H4 a b q => ⟨F4, en4, b, s3.trans q, a⟩, k.rt, fun en4 σ4 F4 H4 a b q => k.nx _ _ F4 H4 a b ((Sub.trans x1.ff s3).trans q), fun en4 σ4 F4 H4 a b q => ⟨F4, en4, b, s3.trans q, a⟩⟩
  · have e : i = ds.length := by omega
    subst e
    exact .inl ⟨w.stop F2 H2 sb r2.ext.self, k.nx _ _ F2 H2 (fin en2 w2) r2 (Sub.trans x1.ff sb)⟩
/-- item by item -/
def forL (g : DTG) (s1 : DTS) : List D → DEnds → En → Prop
  | [], R, en => R.nx en
  | d :: ds, R, en => g d en fun en' => s1 { nx := forL g s1 ds R, ct := forL g s1 ds R, bk := R.nx, rt := R.rt } en'
theorem for_unroll {g : DTG} {ds : List D} {R : DEnds} {en : En} (h : forL g s1 ds R en) : ForW g s1 ds R en := by
  refine ⟨fun i en => forL g s1 (ds.drop i) R en, h, fun i d e en w => ?_, fun en w => ?_⟩
  · have hl : i < ds.length := (List.getElem?_eq_some_iff.mp e).1
    have q : ds.drop i = d :: ds.drop (i + 1) := by
      rw [List.drop_eq_getElem_cons hl]
      rw [(List.getElem?_eq_some_iff.mp e).2]
    simp only [q] at w
    exact w
  · simpa [forL] using w

/-- the slots at the entry: the arguments, then nothing -/
def startE (n : Nat) (ds : List D) : En := ds.map .val ++ List.replicate (n - ds.length) .un
theorem sr_start {K : PySem.W.Frag} {N : List Str} {F H : Hp} {vs : List V} {ds : List D} (hF : ∀ a o, F a = some o → H a = some o) (r : Reps K F vs ds) : SR K ⟨none, F, H⟩ F (L2.start N vs) H (startE N.length ds) := by
  have hl := r.len
  have key : ∀ (i : Nat) s, (startE N.length ds)[i]? = some s → ∃ ov, (L2.start N vs)[i]? = some ov ∧ SlR K ⟨none, F, H⟩ F H ov s ∧ s.isOwn = false := fun i s e => by
    unfold startE at e
    unfold L2.start
    by_cases q : i < ds.length
    · rw [List.getElem?_append_left (by simpa using q), List.getElem?_map, List.getElem?_eq_getElem q] at e
      cases e
      obtain ⟨v, h1, h2⟩ := r.get (List.getElem?_eq_getElem q)
      exact ⟨some v, by rw [List.getElem?_append_left (by simpa [hl] using q), List.getElem?_map, h1]; rfl, ⟨v, rfl, h2⟩, rfl⟩
    · rw [List.getElem?_append_right (by simpa using Nat.not_lt.mp q), List.length_map, List.getElem?_replicate] at e
      split at e
      · rename_i h1
        cases e
        refine ⟨none, ?_, trivial, rfl⟩
        rw [List.getElem?_append_right (by simpa [hl] using Nat.not_lt.mp q), List.length_map, List.getElem?_replicate, hl, if_pos h1]
      · cases e
  refine ⟨.refl hF (fun _ e => nomatch e), ?_, fun i s e => ?_, fun i a h => ?_, fun i j a h _ => ?_, fun _ e => nomatch e⟩
  · unfold L2.start startE
    simp [hl]
  · obtain ⟨ov, h1, h2, _⟩ := key i s e
    exact ⟨ov, h1, h2⟩
  · obtain ⟨_, s, es, so⟩ := h
    obtain ⟨_, _, _, n⟩ := key i s es
    rw [n] at so; cases so
  · obtain ⟨_, s, es, so⟩ := h
    obtain ⟨_, _, _, n⟩ := key i s es
    rw [n] at so; cases so
/-- what a def's body wants -/
def fnE (R : D → Prop) : DEnds := { nx := fun _ => R .none, rt := R }
end
section
variable {P : Program} {w : World} {K : PySem.W.Frag} {mg : Str → Option Value} {base : Heap}
/-- THE RULE for a def: its body as a reading, and that the promise leads to the reading -/
theorem def_ok {x qual : Str} {st : Stmt} {f : Addr} {fd : FuncData} {N ps : List Str} {k : Nat} {sp : Lay.Spec} {m : DTS} (F : Fun K x qual st f fd) (S : FnScope N ps (defScope st))
    (body : ∀ (cdv : Value) (A : Around) (outer : List Env) (s : Shared) (H : Hp) (E : XK) (c : Ct), Room k (A.deeper (envOfC qual (defScope st) s.heap.objs.size f cdv)) → DSs (cxOf CX0 P w K mg base N qual (defScope st) f cdv A outer s H E).nox c (defBody st) m)
    (ok : ∀ ds R, ds.length = ps.length → sp ds R → m (fnE R) (startE N.length ds)) : FnOk P w K mg base CX0 (k + 1) f fd ps (liftSp K ps.length sp) := by
  refine F.ok S (fun vs H Q E h => ?_) (fun cdv A outer s H vs Q E hr h => ?_)
  · obtain ⟨_, _, _, h, _⟩ := h
    exact h
  obtain ⟨F0, ds, R, hl, hF, rv, hsp, kk⟩ := h
  refine ⟨_, (body cdv A outer s H E ⟨none, F0, H⟩ hr).run, ?_⟩
  refine ⟨F0, startE N.length ds, fnE R, sr_start hF rv, ok ds R (by rw [← rv.len]; exact hl) hsp, fun en' σ' F' H' a b _ => ?_, fun d v F' H' a b c => kk d a v F' H' b c, fun en' σ' F' H' a b _ => a.elim, fun en' σ' F' H' a b _ => a.elim⟩
  exact kk _ a _ F' H' b.ext .non
end
end Lay
namespace Lay
open PySem PySem.Spec L2
open PyProof.Rows hiding St

section
variable {X : Cx} {c : Ct} {e a b : Expr} {es : List Expr} {m ma mb : DTE} {ml : DTA} {mt mu : DTT} {pos : Pos} {s1 : DTS}
theorem nv (i : Nat) {x : Str} (hN : X.N[i]? = some x := by rfl) (hv : Vis X.env.scope x := by first | exact Or.inl rfl | exact Or.inr (Or.inl rfl) | exact Or.inr (Or.inr rfl)) (hd : (x == ("__debug__" : Str)) = false := by decide)
    (hcd : (x == ("__classdict__" : Str)) = false := by decide) : DE X c (.Name x pos) (dVar i) := de_var hN hv hd hcd
theorem gn (i : Nat) (hN : X.N.Nodup) {x : Str} (hi : X.N[i]? = some x := by rfl) (hx : Loc X.env.scope x := by first | exact Or.inl rfl | exact Or.inr rfl) (hf : X.fn x = true ∨ X.env.scope.names.lookup x = some .local := by first | exact .inl rfl | exact .inr rfl) : DG X c (.Name x pos) [i] (gNm i) := dg_name hN hi hx hf
theorem sset (i : Nat) {x : Str} {pos' : Pos} (hN : X.N.Nodup) (he : DE X c e m) (hi : X.N[i]? = some x := by rfl) (hx : Loc X.env.scope x := by first | exact Or.inl rfl | exact Or.inr rfl) (hs : swapsWith e (some (.Name x pos')) pos.line X.env = pure false := by rfl) (hf : X.fn x = true ∨ X.env.scope.names.lookup x = some .local := by first | exact .inl rfl | exact .inr rfl) :
    DS X c (.Assign [.Name x pos'] e pos) (dAsg m (gNm i)) := ds_set hN hi hx he hs hf
theorem sown (i : Nat) {x : Str} {pos' spos : Pos} (hN : X.N.Nodup) (ha : DA X c es ml) (hi : X.N[i]? = some x := by rfl) (hx : Loc X.env.scope x := by first | exact Or.inl rfl | exact Or.inr rfl) (hz : es.length ≤ sizeLine := by decide) (hs : swapsWith (.List es pos) (some (.Name x pos')) pos.line X.env = pure false := by rfl) (hf : X.fn x = true ∨ X.env.scope.names.lookup x = some .local := by first | exact .inl rfl | exact .inr rfl) (hs' : swapsWith (.List es pos) (some (.Name x pos')) spos.line X.env = pure false := by rfl) :
    DS X c (.Assign [.Name x pos'] (.List es pos) spos) (dOwn i ml) := ds_own hN hi hx ha hz hs hf hs'
theorem sownL (i : Nat) {x : Str} {p pos' spos : Pos} (hN : X.N.Nodup) (hm : X.mg "list" = none) (ha : DA X c [a] ml) (hg : Gl X "list" := by rfl) (hi : X.N[i]? = some x := by rfl) (hx : Loc X.env.scope x := by first | exact Or.inl rfl | exact Or.inr rfl) (hs : swapsWith (.Call (.Name "list" p) [a] [] pos) (some (.Name x pos')) spos.line X.env = pure false := by rfl)
    (he : starEach [a] X.env = (false, eval a X.env) :: starEach [] X.env := by rfl) (hpl : (backTo pos (starEach [] X.env)).any (·.1) = false := by rfl) (hf : X.fn x = true ∨ X.env.scope.names.lookup x = some .local := by first | exact .inl rfl | exact .inr rfl) :
    DS X c (.Assign [.Name x pos'] (.Call (.Name "list" p) [a] [] pos) spos) (dOwnL i ml) := ds_ownL hg hm hN hi hx ha hs he hpl hf
theorem saug (i : Nat) {x : Str} {op : Operator} {f : Int → Int → Int} {pos' : Pos} (ho : PIp X op (ipI f)) (hN : X.N.Nodup) (he : DE X c e m) (hi : X.N[i]? = some x := by rfl) (hx : Loc X.env.scope x := by first | exact Or.inl rfl | exact Or.inr rfl) (hf : X.fn x = true ∨ X.env.scope.names.lookup x = some .local := by first | exact .inl rfl | exact .inr rfl) :
    DS X c (.AugAssign (.Name x pos') op e pos) (dAug i f m) := ds_aug ho hN hi hx he hf
theorem sapp (i : Nat) {x : Str} {px ap spos : Pos} (ha : DE X c e m) (hN : X.N[i]? = some x := by rfl) (hv : Vis X.env.scope x := by first | exact Or.inl rfl | exact Or.inr (Or.inl rfl) | exact Or.inr (Or.inr rfl)) (hd : (x == ("__debug__" : Str)) = false := by decide) (hcd : (x == ("__classdict__" : Str)) = false := by decide)
    (hbase : attributeBase (.Name x px) "append" X.env (eval (.Name x px) X.env) = eval (.Name x px) X.env := by rfl)
    (hfew : ((backTo pos (starEach [e] X.env)).all (fun x => !x.1) && (backToKw pos (keywordEach [] X.env)).all (fun x => x.1.isSome) && decide ([e].length + ([] : List Keyword).length + (if ([] : List Keyword).isEmpty then 0 else 1) < 30)) = true := by rfl)
    (hline : (ap.endLine == pos.line) = true := by rfl) (hst : starEach [e] X.env = (false, eval e X.env) :: starEach [] X.env := by rfl) (hplain : (backTo pos (starEach [] X.env)).any (·.1) = false := by rfl)
    (hs : swapsWith (.Call (.Attribute (.Name x px) "append" ap) [e] [] pos) none spos.line X.env = pure false := by rfl) : DS X c (.Expr (.Call (.Attribute (.Name x px) "append" ap) [e] [] pos) spos) (dApp i m) :=
  ds_app hN hv ha hbase (pe_bm PySem.F.plainAttrs_list PySem.F.slot_list_append PySem.F.type_list_append mt_append (pe_var hN hv hd hcd) (pa_cons ha.run pa_nil hst) hbase hfew hline hst hplain) hs
theorem sext (i : Nat) {x : Str} {px ap spos : Pos} (ha : DE X c e m) (hN : X.N[i]? = some x := by rfl) (hv : Vis X.env.scope x := by first | exact Or.inl rfl | exact Or.inr (Or.inl rfl) | exact Or.inr (Or.inr rfl)) (hd : (x == ("__debug__" : Str)) = false := by decide) (hcd : (x == ("__classdict__" : Str)) = false := by decide)
    (hbase : attributeBase (.Name x px) "extend" X.env (eval (.Name x px) X.env) = eval (.Name x px) X.env := by rfl)
    (hfew : ((backTo pos (starEach [e] X.env)).all (fun x => !x.1) && (backToKw pos (keywordEach [] X.env)).all (fun x => x.1.isSome) && decide ([e].length + ([] : List Keyword).length + (if ([] : List Keyword).isEmpty then 0 else 1) < 30)) = true := by rfl)
    (hline : (ap.endLine == pos.line) = true := by rfl) (hst : starEach [e] X.env = (false, eval e X.env) :: starEach [] X.env := by rfl) (hplain : (backTo pos (starEach [] X.env)).any (·.1) = false := by rfl)
    (hs : swapsWith (.Call (.Attribute (.Name x px) "extend" ap) [e] [] pos) none spos.line X.env = pure false := by rfl) : DS X c (.Expr (.Call (.Attribute (.Name x px) "extend" ap) [e] [] pos) spos) (dExt i m) :=
  ds_ext ha (pe_bm PySem.F.plainAttrs_list PySem.F.slot_list_extend PySem.F.type_list_extend mt_extend (pe_var hN hv hd hcd) (pa_cons ha.run pa_nil hst) hbase hfew hline hst hplain) hs
theorem spar (i j : Nat) {x y : Str} {px py pt : Pos} {kt k2 pt2} (hN : X.N.Nodup) (ha : DA X c [a, b] ml) (hc : X.calm = true := by rfl) (hi : X.N[i]? = some x := by rfl) (hj : X.N[j]? = some y := by rfl) (hij : i ≠ j := by decide)
    (hx : X.env.scope.names.lookup x = some .local := by rfl) (hy : X.env.scope.names.lookup y = some .local := by rfl)
    (hw : swappedStores [.Tuple [.Name x px, .Name y py] kt pt] (.Tuple [a, b] k2 pt2) X.env = pure (some [x, y]) := by rfl)
    (hs : swapsWithSole [.Tuple [.Name x px, .Name y py] kt pt] (.Tuple [a, b] k2 pt2) pos.line X.env = pure false := by rfl) :
    DS X c (.Assign [.Tuple [.Name x px, .Name y py] kt pt] (.Tuple [a, b] k2 pt2) pos) (dPar i j ml) := ds_par hc hN hi hj hij hx hy ha hw hs
/-- a def that stands and keeps its promise -/
def Has (P : Program) (w : World) (K : PySem.W.Frag) (mg : Str → Option Value) (base : Heap) (k : Nat) (x : Str) (ps : List Str) (sp : Sp) : Prop :=
  ∃ f fd, FnOk P w K mg base CX0 k f fd ps sp ∧ mg x = some (.ref f) ∧ PySem.W.keepIn K (.ref f) = true ∧ Binds K fd ps []
theorem kall {x : Str} {p : Pos} {k j : Nat} {ps : List Str} {sp : Lay.Spec} (G : Has X.prog X.w X.K X.mg X.base j x ps (liftSp X.K ps.length sp)) (hr : Room k X.A) (ha : DA X c (e :: es) ml) (hj : j ≤ k := by decide) (hg : Gl X x := by rfl)
    (hl : (e :: es).length = ps.length := by rfl) (hdb : (x == ("__debug__" : Str)) = false := by decide) (he : starEach (e :: es) X.env = (false, eval e X.env) :: starEach es X.env := by rfl) (hpl : (backTo pos (starEach es X.env)).any (·.1) = false := by rfl) :
    DE X c (.Call (.Name x p) (e :: es) [] pos) (dCall sp ml) := by
  obtain ⟨f, fd, G, hm, hk, hb⟩ := G
  exact de_call G (hr.mono hj) hg hm hk hb ha hl hdb he hpl
theorem kallW (i : Nat) {x y : Str} {p py : Pos} {k j : Nat} {ps : List Str} {sp : Lay.Spec} (G : Has X.prog X.w X.K X.mg X.base j x ps (liftSpW X.K (ps.length - 1) sp)) (hr : Room k X.A) (ha : DA X c es ml) (hj : j ≤ k := by decide) (hg : Gl X x := by rfl)
    (hN : X.N[i]? = some y := by rfl) (hv : Vis X.env.scope y := by first | exact Or.inl rfl | exact Or.inr (Or.inl rfl) | exact Or.inr (Or.inr rfl))
    (hl : es.length = ps.length - 1 := by rfl) (hdb : (x == ("__debug__" : Str)) = false := by decide) (he : starEach (.Name y py :: es) X.env = (false, eval (.Name y py) X.env) :: starEach es X.env := by rfl) (hpl : (backTo pos (starEach es X.env)).any (·.1) = false := by rfl)
    (hd : (y == ("__debug__" : Str)) = false := by decide) (hcd : (y == ("__classdict__" : Str)) = false := by decide) :
    DE X c (.Call (.Name x p) (.Name y py :: es) [] pos) (dCallW i sp ml) := by
  obtain ⟨f, fd, G, hm, hk, hb⟩ := G
  exact de_callW G (hr.mono hj) hg hm hk hb hN hv ha hl hdb he hpl hd hcd

def dLenS (i : Nat) (en : En) (Q : D → Prop) : Prop := onScr (gt en i) fun ns => Q (.int ns.length)
theorem de_lenS (i : Nat) {x : Str} {p px : Pos} (hm : X.mg "len" = none) (hg : Gl X "len" := by rfl) (hN : X.N[i]? = some x := by rfl) (hv : Vis X.env.scope x := by first | exact Or.inl rfl | exact Or.inr (Or.inl rfl) | exact Or.inr (Or.inr rfl)) (hd : (x == ("__debug__" : Str)) = false := by decide) (hcd : (x == ("__classdict__" : Str)) = false := by decide)
    (he : starEach [.Name x px] X.env = (false, eval (.Name x px) X.env) :: starEach [] X.env := by rfl) (hpl : (backTo pos (starEach [] X.env)).any (·.1) = false := by rfl) : DE X c (.Call (.Name "len" p) [.Name x px] [] pos) (dLenS i) := by
  refine ⟨PE.imp (pe_callB call_len_seq hg hm PySem.boot_len (pa_cons (pe_var hN hv hd hcd) pa_nil he) (by decide) (by decide) he hpl) fun σ H Q h => ?_⟩
  obtain ⟨F, en, R, r, h, k⟩ := h
  unfold dLenS onScr at h
  split at h
  · rename_i ns hg
    obtain ⟨ov, e1, p, e2, e3⟩ := r.sl i _ (gt_get hg (fun z => nomatch z))
    subst e2
    exact ⟨_, e1, p, _, rfl, .inl (sqL_mono r.fh e3), by rw [List.length_map]; exact k _ h _ F H r.ext.self (.int _)⟩
  · exact h.elim
def optI (o : Option Int) (Q : D → Prop) : Prop := match o with | some n => Q (.int n) | none => False
def dIxS (i : Nat) (m : DTE) (en : En) (Q : D → Prop) : Prop := onScr (gt en i) fun ns => m en fun d => onInt d fun j => optI (atI ns j) Q
theorem atI_map {α β : Type} {f : α → β} {xs : List α} {i : Int} {x : α} (h : atI xs i = some x) : atI (xs.map f) i = some (f x) := by
  unfold atI at h ⊢
  rw [List.length_map]
  cases q : ixN xs.length i with
  | none => rw [q] at h; cases h
  | some j =>
    rw [q] at h
    show (xs.map f)[j]? = _
    rw [List.getElem?_map, show xs[j]? = some x from h]; rfl
theorem de_ixS (i : Nat) {x : Str} {px : Pos} (hb : DE X c b mb) (hs : PlainIx b := by exact fun _ _ => rfl) (hN : X.N[i]? = some x := by rfl) (hv : Vis X.env.scope x := by first | exact Or.inl rfl | exact Or.inr (Or.inl rfl) | exact Or.inr (Or.inr rfl)) (hd : (x == ("__debug__" : Str)) = false := by decide) (hcd : (x == ("__classdict__" : Str)) = false := by decide) :
    DE X c (.Subscript (.Name x px) b pos) (dIxS i mb) := by
  refine ⟨PE.imp (pe_ix ix_seq (pe_var hN hv hd hcd) hb.run hs) fun σ H Q h => ?_⟩
  obtain ⟨F, en, R, r, h, k⟩ := h
  unfold dIxS onScr at h
  split at h
  · rename_i ns hg
    obtain ⟨ov, e1, p, e2, e3⟩ := r.sl i _ (gt_get hg (fun z => nomatch z))
    subst e2
    refine ⟨_, e1, F, en, _, r, h, fun d hd v F' H' x rv => ?_⟩
    cases d with
    | int j =>
      have hd : optI (atI ns j) R := hd
      cases q : atI ns j with
      | none => rw [q] at hd; exact False.elim hd
      | some n =>
        rw [q] at hd
        cases rv
        exact .inl ⟨p, _, j, _, rfl, rfl, sqL_mono x.fh (sqL_mono x.ff e3), atI_map (f := V.int) q, k _ hd _ F' H' x (.int _)⟩
    | _ => exact False.elim hd
  · exact h.elim
end

section
variable {P : Program} {w : World} {K : PySem.W.Frag} {mg : Str → Option Value} {base : Heap}
theorem SR.head {F H : Hp} {σ : St} {en : En} {ov : Option V} {s : Sl} {c : Ct} (r : SR K c F σ H en) (n : s.isOwn = false) (h : SlR K c F H ov s) : SR K c F (ov :: σ) H (s :: en) where
  ext := r.ext
  len := by simp [r.len]
  sl := fun i u e => by
    cases i with
    | zero =>
      rw [List.getElem?_cons_zero] at e
      cases e
      exact ⟨ov, rfl, h⟩
    | succ i =>
      rw [List.getElem?_cons_succ] at e ⊢
      exact r.sl i u e
  own := fun i a z => by
    obtain ⟨e, u, eu, ou⟩ := z
    cases i with
    | zero =>
      rw [List.getElem?_cons_zero] at eu
      cases eu
      rw [n] at ou; cases ou
    | succ i =>
      rw [List.getElem?_cons_succ] at eu e
      exact r.own i a ⟨e, u, eu, ou⟩
  apart := fun i j a z1 z2 => by
    obtain ⟨e, u, eu, ou⟩ := z1
    obtain ⟨e', u', eu', ou'⟩ := z2
    cases i with
    | zero =>
      rw [List.getElem?_cons_zero] at eu
      cases eu
      rw [n] at ou; cases ou
    | succ i =>
      cases j with
      | zero =>
        rw [List.getElem?_cons_zero] at eu'
        cases eu'
        rw [n] at ou'; cases ou'
      | succ j =>
        rw [List.getElem?_cons_succ] at eu e eu' e'
        rw [r.apart i j a ⟨e, u, eu, ou⟩ ⟨e', u', eu', ou'⟩]
  wn := r.wn
theorem sr_startG {N : List Str} {F H : Hp} {wo : Option (Addr × Addr)} {vs : List V} {ds : List D} (hF : ∀ a o, F a = some o → H a = some o) (hw : ∀ p, wo = some p → WOk H p ∧ F p.1 = none) (r : Reps K F vs ds) (n : Nat) : SR K ⟨wo, F, H⟩ F (vs.map some ++ List.replicate n none) H (ds.map .val ++ List.replicate n .un) := by
  have hl := r.len
  have key : ∀ (i : Nat) s, (ds.map Sl.val ++ List.replicate n Sl.un)[i]? = some s → ∃ ov, (vs.map some ++ List.replicate n none)[i]? = some ov ∧ SlR K ⟨wo, F, H⟩ F H ov s ∧ s.isOwn = false := fun i s e => by
    by_cases q : i < ds.length
    · rw [List.getElem?_append_left (by simpa using q), List.getElem?_map, List.getElem?_eq_getElem q] at e
      cases e
      obtain ⟨v, h1, h2⟩ := r.get (List.getElem?_eq_getElem q)
      exact ⟨some v, by rw [List.getElem?_append_left (by simpa [hl] using q), List.getElem?_map, h1]; rfl, ⟨v, rfl, h2⟩, rfl⟩
    · rw [List.getElem?_append_right (by simpa using Nat.not_lt.mp q), List.length_map, List.getElem?_replicate] at e
      split at e
      · rename_i h1
        cases e
        refine ⟨none, ?_, trivial, rfl⟩
        rw [List.getElem?_append_right (by simpa [hl] using Nat.not_lt.mp q), List.length_map, List.getElem?_replicate, hl, if_pos h1]
      · cases e
  refine ⟨.refl hF (fun p e => (hw p e).1), ?_, fun i s e => ?_, fun i a h => ?_, fun i j a h _ => ?_, fun p e => (hw p e).2⟩
  · simp [hl]
  · obtain ⟨ov, h1, h2, _⟩ := key i s e
    exact ⟨ov, h1, h2⟩
  · obtain ⟨_, s, es, so⟩ := h
    obtain ⟨_, _, _, n⟩ := key i s es
    rw [n] at so; cases so
  · obtain ⟨_, s, es, so⟩ := h
    obtain ⟨_, _, _, n⟩ := key i s es
    rw [n] at so; cases so
theorem start_cons {N : List Str} {v : V} {vs : List V} : L2.start N (v :: vs) = some v :: (vs.map some ++ List.replicate (N.length - (vs.length + 1)) none) := rfl
def startW (n : Nat) (ds : List D) : En := .wv :: (ds.map .val ++ List.replicate (n - (ds.length + 1)) .un)
theorem def_okW {x qual : Str} {st : Stmt} {f : Addr} {fd : FuncData} {N ps : List Str} {k : Nat} {sp : Lay.Spec} {m : DTS} (F : Fun K x qual st f fd) (S : FnScope N ps (defScope st)) (hp : ps ≠ [])
    (body : ∀ (cdv : Value) (A : Around) (outer : List Env) (s : Shared) (H : Hp) (E : XK) (c : Ct), Room k (A.deeper (envOfC qual (defScope st) s.heap.objs.size f cdv)) → DSs (cxOf CX0 P w K mg base N qual (defScope st) f cdv A outer s H E).nox c (defBody st) m)
    (ok : ∀ ds R, ds.length = ps.length - 1 → sp ds R → m (fnE R) (startW N.length ds)) : FnOk P w K mg base CX0 (k + 1) f fd ps (liftSpW K (ps.length - 1) sp) := by
  have hpos : 0 < ps.length := List.length_pos_iff.mpr hp
  refine F.ok S (fun vs H Q E h => ?_) (fun cdv A outer s H vs Q E hr h => ?_)
  · obtain ⟨_, _, _, _, _, rfl, h, _⟩ := h
    rw [List.length_cons, h]
    omega
  obtain ⟨p, us, F0, ds, R, rfl, hl, hF, hn, hw, rv, hsp, kk⟩ := h
  refine ⟨_, (body cdv A outer s H E ⟨some p, F0, H⟩ hr).run, ?_⟩
  have r0 := sr_startG (N := N) (wo := some p) hF (fun q e => by cases e; exact ⟨hw, hn⟩) rv (N.length - (us.length + 1))
  have r1 := r0.head (s := .wv) (ov := some (.ref p.1)) rfl ⟨p.1, rfl, p.2, rfl⟩
  refine ⟨F0, startW N.length ds, fnE R, ?_, ok ds R (by rw [← rv.len]; exact hl) hsp, fun en' σ' F' H' a b _ => ?_, fun d v F' H' a b c => kk d a v F' H' b c, fun en' σ' F' H' a b _ => a.elim, fun en' σ' F' H' a b _ => a.elim⟩
  · rw [start_cons]
    unfold startW
    rw [← rv.len]
    exact r1
  · exact kk _ a _ F' H' b.ext .non
/-- f(script, ..) -/
def liftSpS (K : PySem.W.Frag) (n : Nat) (sp : List Int → Lay.Spec) : Sp := fun vs H Q _ => ∃ (a : Addr) (ns : List Int) (us : List V) (F : Hp) (ds : List D) (R : D → Prop), vs = .ref a :: us ∧ us.length = n ∧ SqL K F a (ns.map V.int) ∧ ns.length ≤ 63 ∧ (∀ a o, F a = some o → H a = some o) ∧
  Reps K F us ds ∧ sp ns ds R ∧ ∀ d, R d → ∀ v F' H', Ext none F H F' H' → Rep K F' v d → Q v H'
def startS (n : Nat) (ns : List Int) (ds : List D) : En := .scr ns :: (ds.map .val ++ List.replicate (n - (ds.length + 1)) .un)
theorem def_okS {x qual : Str} {st : Stmt} {f : Addr} {fd : FuncData} {N ps : List Str} {k : Nat} {sp : List Int → Lay.Spec} {m : DTS} (F : Fun K x qual st f fd) (S : FnScope N ps (defScope st)) (hp : ps ≠ [])
    (body : ∀ (cdv : Value) (A : Around) (outer : List Env) (s : Shared) (H : Hp) (E : XK) (c : Ct), Room k (A.deeper (envOfC qual (defScope st) s.heap.objs.size f cdv)) → DSs (cxOf CX0 P w K mg base N qual (defScope st) f cdv A outer s H E).nox c (defBody st) m)
    (ok : ∀ ns ds R, ds.length = ps.length - 1 → ns.length ≤ 63 → sp ns ds R → m (fnE R) (startS N.length ns ds)) : FnOk P w K mg base CX0 (k + 1) f fd ps (liftSpS K (ps.length - 1) sp) := by
  have hpos : 0 < ps.length := List.length_pos_iff.mpr hp
  refine F.ok S (fun vs H Q E h => ?_) (fun cdv A outer s H vs Q E hr h => ?_)
  · obtain ⟨_, _, _, _, _, _, rfl, h, _⟩ := h
    rw [List.length_cons, h]
    omega
  obtain ⟨a, ns, us, F0, ds, R, rfl, hl, hs, h63, hF, rv, hsp, kk⟩ := h
  refine ⟨_, (body cdv A outer s H E ⟨none, F0, H⟩ hr).run, ?_⟩
  have r0 := sr_startG (N := N) (wo := none) hF (fun q e => nomatch e) rv (N.length - (us.length + 1))
  have r1 := r0.head (s := .scr ns) (ov := some (.ref a)) rfl ⟨a, rfl, hs⟩
  refine ⟨F0, startS N.length ns ds, fnE R, ?_, ok ns ds R (by rw [← rv.len]; exact hl) h63 hsp, fun en' σ' F' H' a b _ => ?_, fun d v F' H' a b c => kk d a v F' H' b c, fun en' σ' F' H' a b _ => a.elim, fun en' σ' F' H' a b _ => a.elim⟩
  · rw [start_cons]
    unfold startS
    rw [← rv.len]
    exact r1
  · exact kk _ a _ F' H' b.ext .non

/-- draws: some list of ints from 0 below 997 -/
def sp_draws : List Int → Lay.Spec := fun _ ds R => match ds with | [.int many] => (0 ≤ many ∧ many ≤ 1000) ∧ ∀ ms : List Int, (∀ r ∈ ms, 0 ≤ r ∧ r < 997) → R (.list (ms.map .int)) | _ => False
/-- the next draw: any int from 0 below many (and 997) -/
def sp_next : Lay.Spec := fun ds R => match ds with | [.int many] => 0 < many ∧ ∀ r : Int, 0 ≤ r → r < many → r < 997 → R (.int r) | _ => False
/-- what law(script) promises -/
def spLaw (K : PySem.W.Frag) : Sp := fun vs H Q _ => ∃ (a : Addr) (ns : List Int), vs = [.ref a] ∧ SqL K H a (ns.map V.int) ∧ ns.length ≤ 63 ∧ ∀ H', Q (.bl true) H'
theorem dss_any {X : Cx} {sts : List Stmt} {m : DTS} (h : ∀ c, DSs X c sts m) : PSs X sts (fun D σ H => ∃ c, liftS X.K c m D σ H) := ⟨fun pins s σ H D I ⟨c, q⟩ => (h c).run.run pins s σ H D I q⟩
/-- the law: w = {"draws": _law_draws(script, many), "at": 0}, then the rest -/
theorem law_ok {st : Stmt} {f : Addr} {fd : FuncData} {N : List Str} {k : Nat} {many : Int} {m : DTS} {rest : List Stmt} {s1 : Stmt} (F : Fun K "law" "law" st f fd) (S : FnScope N ["script"] (defScope st)) (hN : 2 ≤ N.length) (hmany : 0 ≤ many ∧ many ≤ 1000)
    (hb : defBody st = s1 :: rest)
    (first : ∀ (cdv : Value) (A : Around) (outer : List Env) (s : Shared) (H : Hp) (E : XK), Room k (A.deeper (envOfC "law" (defScope st) s.heap.objs.size f cdv)) →
      PS (cxOf CX0 P w K mg base N "law" (defScope st) f cdv A outer s H E).nox s1 (tAsg (tDisp [(tC (.str "draws"), tCall (liftSpS K 1 sp_draws) [] E0 (tCons (tVar 0) (tCons (tC (.int many)) tNil))), (tC (.str "at"), tC (.int 0))]) (gName 1)))
    (body : ∀ (cdv : Value) (A : Around) (outer : List Env) (s : Shared) (H : Hp) (E : XK) (c : Ct), Room k (A.deeper (envOfC "law" (defScope st) s.heap.objs.size f cdv)) → DSs (cxOf CX0 P w K mg base N "law" (defScope st) f cdv A outer s H E).nox c rest m)
    (ok : m (fnE fun d => d = .bool true) (.un :: .wv :: List.replicate (N.length - 2) .un)) : FnOk P w K mg base CX0 (k + 1) f fd ["script"] (spLaw K) := by
  refine F.ok S (fun vs H Q E h => ?_) (fun cdv A outer s H vs Q E hr h => ?_)
  · obtain ⟨a, ns, rfl, _⟩ := h
    rfl
  obtain ⟨a, ns, rfl, hS, h63, kk⟩ := h
  rw [hb]
  refine ⟨_, pss_cons (first cdv A outer s H E hr) (dss_any fun c => body cdv A outer s H E c hr), ?_⟩
  intro p hp
  have np : ∀ b o, H b = some o → b ≠ p := fun b o e => ne_of_none e hp
  have hS1 : SqL K (upd H p (.dK [])) a (ns.map V.int) := by
    rcases hS with (h | ⟨o, h⟩) | h
    · exact .inl (.inl (by rw [upd_ne (np _ _ h)]; exact h))
    · exact .inl (.inr ⟨o, by rw [upd_ne (np _ _ h)]; exact h⟩)
    · exact .inr h
  refine ⟨.ref a, rfl, ?_⟩
  refine ⟨a, ns, [.int many], fun b => if b = a then upd H p (.dK []) b else none, [.int many], fun d => ∃ ms' : List Int, d = .list (ms'.map .int) ∧ ∀ r ∈ ms', 0 ≤ r ∧ r < 997, rfl, rfl, ?_, h63, fun b o e => ?_, .cons (.int _) .nil, ⟨hmany, fun ms hms => ⟨ms, rfl, hms⟩⟩, fun d hd v F' H' x rv => ?_⟩
  · rcases hS1 with (h | ⟨o, h⟩) | h
    · exact .inl (.inl (by simp only [if_pos]; exact h))
    · exact .inl (.inr ⟨o, by simp only [if_pos]; exact h⟩)
    · exact .inr h
  · by_cases q : b = a
    · simp only [q, if_pos] at e ⊢; exact e
    · simp only [q, if_neg, not_false_eq_true] at e; cases e
  · obtain ⟨ms, rfl, hms⟩ := hd
    obtain ⟨da, xs, rfl, g1, g2, g3⟩ := rv.lstI
    have exs := g2.ints_inv
    subst exs
    have h1 := x.hh p _ upd_same notW
    have h2 := x.fh _ _ g1
    refine ⟨h1, [(.inr "draws", .ref da), (.inr "at", .int 0)], rfl, by show 2 ≤ 15; decide, ?_⟩
    have ndp : da ≠ p := ne_of h2 h1 (by intro z; cases z)
    refine ⟨⟨some (p, da), fun _ => none, upd H' p (.dK (mergeK [] [(.inr "draws", .ref da), (.inr "at", .int 0)]))⟩, fun _ => none, .un :: .wv :: List.replicate (N.length - 2) .un, fnE fun d => d = .bool true, ?_, ok, fun en' σ' F' H' a b _ => (by cases a), fun d v F' H' a b c => ?_, fun en' σ' F' H' a b _ => a.elim, fun en' σ' F' H' a b _ => a.elim⟩
    · have hw : WOk (upd H' p (.dK (mergeK [] [(.inr "draws", .ref da), (.inr "at", .int 0)]))) (p, da) :=
        ⟨0, ms, by rw [upd_same]; rfl, by rw [upd_ne ndp]; exact h2, Int.le_refl 0, hms⟩
      have r0 := sr_startG (K := K) (N := N) (wo := some (p, da)) (F := fun _ => none) (H := upd H' p (.dK (mergeK [] [(.inr "draws", .ref da), (.inr "at", .int 0)]))) (vs := []) (ds := []) (fun _ _ e => nomatch e) (fun q e => by cases e; exact ⟨hw, rfl⟩) .nil (N.length - 2)
      have r1 := (r0.head (s := .wv) (ov := some (.ref p)) rfl ⟨p, rfl, da, rfl⟩).head (s := .un) (ov := some (.ref a)) rfl trivial
      have eσ : (L2.start N [V.ref a]).set 1 (some (.ref p)) = some (.ref a) :: some (.ref p) :: List.replicate (N.length - 2) none := by
        show (some (V.ref a) :: List.replicate (N.length - 1) none).set 1 (some (.ref p)) = _
        have : N.length - 1 = (N.length - 2) + 1 := by omega
        rw [this]
        rfl
      show SR K _ _ ((L2.start N [V.ref a]).set 1 (some (.ref p))) _ _
      rw [eσ]
      exact r1
    · have e : d = .bool true := a
      subst e
      cases c
      exact kk _
end
end Lay
namespace Lay
open PySem PySem.Spec L2
open PyProof.Rows hiding St

theorem shaped_int (i : Int) : SeqAt.shaped (.int i) = true := rfl
theorem shaped_bool (i : Bool) : SeqAt.shaped (.bool i) = true := rfl
theorem shaped_none : SeqAt.shaped .none = true := rfl
theorem shaped_listI (xs : List Int) : SeqAt.shaped (.list (xs.map .int)) = true := by
  have h1 : ∀ xs : List Int, PyData.canLayAll0 (xs.map .int) = true := fun xs => by
    induction xs with
    | nil => rfl
    | cons x xs ih => rw [List.map_cons, PyData.canLayAll0, ih]; rfl
  have h2 : ∀ xs : List Int, PyData.depthAll (xs.map .int) = 0 := fun xs => by
    induction xs with
    | nil => rfl
    | cons x xs ih => rw [List.map_cons, PyData.depthAll, ih]; rfl
  show (PyData.canLayAll0 (xs.map .int) && decide (PyData.depthAll (xs.map .int) + 1 ≤ 64)) = true
  rw [h1, h2]
  rfl
theorem shaped_tupI (xs : List Int) : SeqAt.shaped (.tuple (xs.map .int)) = true := by
  exact shaped_listI xs
theorem shaped_nilL : SeqAt.shaped (.list []) = true := shaped_listI []
theorem shaped_nilT : SeqAt.shaped (.tuple []) = true := shaped_tupI []
theorem cl_int (i : Int) : PyData.canLay0 (.int i) = true := rfl
theorem cl_bool (i : Bool) : PyData.canLay0 (.bool i) = true := rfl
theorem cl_none : PyData.canLay0 .none = true := rfl
theorem cl_tup (ds : List D) : PyData.canLay0 (.tuple ds) = PyData.canLayAll0 ds := rfl
theorem cl_lst (ds : List D) : PyData.canLay0 (.list ds) = PyData.canLayAll0 ds := rfl
theorem cl_nil : PyData.canLayAll0 [] = true := rfl
theorem cl_cons (d : D) (ds : List D) : PyData.canLayAll0 (d :: ds) = (PyData.canLay0 d && PyData.canLayAll0 ds) := rfl
theorem dp_int (i : Int) : PyData.depth (.int i) = 0 := rfl
theorem dp_bool (i : Bool) : PyData.depth (.bool i) = 0 := rfl
theorem dp_str (i : Str) : PyData.depth (.str i) = 0 := rfl
theorem dp_none : PyData.depth .none = 0 := rfl
theorem dp_tup (ds : List D) : PyData.depth (.tuple ds) = PyData.depthAll ds + 1 := rfl
theorem dp_lst (ds : List D) : PyData.depth (.list ds) = PyData.depthAll ds + 1 := rfl
theorem dp_nil : PyData.depthAll [] = 0 := rfl
theorem dp_cons (d : D) (ds : List D) : PyData.depthAll (d :: ds) = max (PyData.depth d) (PyData.depthAll ds) := rfl
theorem eqv_int (i j : Int) : PyData.eqv (.int i) (.int j) = decide (i = j) := by rw [PyData.eqv]; exact Bool.beq_eq_decide_eq i j
theorem eqv_bool (i j : Bool) : PyData.eqv (.bool i) (.bool j) = decide (i = j) := by rw [PyData.eqv]; exact Bool.beq_eq_decide_eq i j
theorem eqv_str (i j : Str) : PyData.eqv (.str i) (.str j) = decide (i = j) := by rw [PyData.eqv]; exact Bool.beq_eq_decide_eq i j
theorem eqv_none : PyData.eqv .none .none = true := rfl
theorem eqv_list_nil (xs : List D) : PyData.eqv (.list xs) (.list []) = xs.isEmpty := by
  cases xs with
  | nil => rfl
  | cons x xs => rfl
theorem not_dec (p : Prop) [Decidable p] : ((!decide p) = true) = ¬ p := by simp
theorem atI_0 {α : Type} (x : α) (xs : List α) : atI (x :: xs) 0 = some x := by
  unfold atI ixN
  rw [if_pos (by decide), if_pos (by simp only [List.length_cons]; omega)]
  rfl
theorem atI_1 {α : Type} (x y : α) (xs : List α) : atI (x :: y :: xs) 1 = some y := by
  unfold atI ixN
  rw [if_pos (by decide), if_pos (by simp only [List.length_cons]; omega)]
  rfl
theorem atI_2 {α : Type} (x y z : α) (xs : List α) : atI (x :: y :: z :: xs) 2 = some z := by
  unfold atI ixN
  rw [if_pos (by decide), if_pos (by simp only [List.length_cons]; omega)]
  rfl
theorem atI_at {α : Type} {xs : List α} {i : Int} (h0 : 0 ≤ i) (h : i < xs.length) : ∃ x, xs[i.toNat]? = some x ∧ atI xs i = some x := by
  have hn : i.toNat < xs.length := by omega
  refine ⟨xs[i.toNat], List.getElem?_eq_getElem hn, ?_⟩
  have : i = ((i.toNat : Nat) : Int) := by omega
  conv => lhs; rw [this]
  exact atI_nat (List.getElem?_eq_getElem hn)
theorem cmulw_small {i j : Int} (h1 : i.natAbs < 2 ^ 500000) (h2 : j.natAbs < 2 ^ 499999) : CMulW i j := wide_mul h1 h2 (by decide) (by decide) (by decide)
theorem cdivb_small {i j : Int} (h0 : j ≠ 0) (h : j.natAbs < 2 ^ 64) : CDivB i j := ⟨h0, Nat.lt_trans (PySem.Flt.log2_lt_of (by decide : 0 < 64) h) (by decide)⟩

section
variable {Q : D → Prop} {i j : Int} {d e : D} {ds es xs ys : List D} {b c : Bool} {s : Sl} {r : List Sl}
theorem addD_int : addD (.int i) (.int j) Q = Q (.int (i + j)) := rfl
theorem addD_str {x y : Str} : addD (.str x) (.str y) Q = (x.length + y.length ≤ sizeLine ∧ Q (.str (x ++ y))) := rfl
theorem addD_tup : addD (.tuple xs) (.tuple ys) Q = (xs.length + ys.length ≤ sizeLine ∧ Q (.tuple (xs ++ ys))) := rfl
theorem addD_lst : addD (.list xs) (.list ys) Q = (xs.length + ys.length ≤ sizeLine ∧ Q (.list (xs ++ ys))) := rfl
theorem subD_int : subD (.int i) (.int j) Q = Q (.int (i - j)) := rfl
theorem mulD_int : mulD (.int i) (.int j) Q = (CMulW i j ∧ Q (.int (i * j))) := rfl
theorem mulD_lst : mulD (.list ds) (.int i) Q = ((-(2 ^ 63) ≤ i ∧ i < 2 ^ 63 ∧ ds.length * i.toNat ≤ sizeLine) ∧ Q (.list (List.replicate i.toNat ds).flatten)) := rfl
theorem mulD_tup : mulD (.tuple ds) (.int i) Q = ((ds ≠ [] ∧ 1 ≤ i ∧ i ≤ 1000 ∧ ds.length ≤ 1000) ∧ Q (.tuple (List.replicate i.toNat ds).flatten)) := rfl
theorem fdivD_int : fdivD (.int i) (.int j) Q = (CDivB i j ∧ Q (.int (i.fdiv j))) := rfl
theorem modD_int : modD (.int i) (.int j) Q = (j ≠ 0 ∧ Q (.int (i.fmod j))) := rfl
theorem powD_int : powD (.int i) (.int j) Q = (CPow i j ∧ Q (.int (i ^ j.toNat))) := rfl
theorem shlD_int : shlD (.int i) (.int j) Q = (CPow i j ∧ Q (.int (i * 2 ^ j.toNat))) := rfl
theorem shrD_int : shrD (.int i) (.int j) Q = (0 ≤ j ∧ Q (.int (i / 2 ^ j.toNat))) := rfl
theorem andD_int : andD (.int i) (.int j) Q = Q (.int (Builtin.bitAnd i j)) := rfl
theorem ltD_int : ltD (.int i) (.int j) Q = Q (.bool (decide (i < j))) := rfl
theorem leD_int : leD (.int i) (.int j) Q = Q (.bool (decide (i ≤ j))) := rfl
theorem gtD_int : gtD (.int i) (.int j) Q = Q (.bool (decide (j < i))) := rfl
theorem geD_int : geD (.int i) (.int j) Q = Q (.bool (decide (j ≤ i))) := rfl
theorem eqD_ap : eqD d e Q = ((SeqAt.shaped d = true ∧ SeqAt.shaped e = true) ∧ Q (.bool (PyData.eqv d e))) := rfl
theorem neD_ap : neD d e Q = ((SeqAt.shaped d = true ∧ SeqAt.shaped e = true) ∧ Q (.bool (!PyData.eqv d e))) := rfl
theorem isD_ap : isD d .none Q = Q (.bool (isNon d)) := rfl
theorem isNotD_ap : isNotD d .none Q = Q (.bool (!isNon d)) := rfl
theorem isNon_none : isNon .none = true := rfl
theorem isNon_int : isNon (.int i) = false := rfl
theorem isNon_bool : isNon (.bool b) = false := rfl
theorem isNon_str {x : Str} : isNon (.str x) = false := rfl
theorem isNon_tup : isNon (.tuple ds) = false := rfl
theorem isNon_lst : isNon (.list ds) = false := rfl
theorem isInt_none : isIntD .none = false := rfl
theorem isInt_int : isIntD (.int i) = true := rfl
theorem isInt_bool : isIntD (.bool b) = true := rfl
theorem isInt_str {x : Str} : isIntD (.str x) = false := rfl
theorem isInt_tup : isIntD (.tuple ds) = false := rfl
theorem isInt_lst : isIntD (.list ds) = false := rfl
theorem isBool_none : isBoolD .none = false := rfl
theorem isBool_int : isBoolD (.int i) = false := rfl
theorem isBool_bool : isBoolD (.bool b) = true := rfl
theorem isBool_str {x : Str} : isBoolD (.str x) = false := rfl
theorem isBool_tup : isBoolD (.tuple ds) = false := rfl
theorem isBool_lst : isBoolD (.list ds) = false := rfl
theorem isStr_none : isStrD .none = false := rfl
theorem isStr_int : isStrD (.int i) = false := rfl
theorem isStr_bool : isStrD (.bool b) = false := rfl
theorem isStr_str {x : Str} : isStrD (.str x) = true := rfl
theorem isStr_tup : isStrD (.tuple ds) = false := rfl
theorem isStr_lst : isStrD (.list ds) = false := rfl
theorem isTup_none : isTupD .none = false := rfl
theorem isTup_int : isTupD (.int i) = false := rfl
theorem isTup_bool : isTupD (.bool b) = false := rfl
theorem isTup_str {x : Str} : isTupD (.str x) = false := rfl
theorem isTup_tup : isTupD (.tuple ds) = true := rfl
theorem isTup_lst : isTupD (.list ds) = false := rfl
theorem isLst_lst : isLstD (.list ds) = true := rfl
theorem Cnd_true {A B : Prop} : Cnd true A B = A := rfl
theorem Cnd_false {A B : Prop} : Cnd false A B = B := rfl
theorem Cnd_not {A B : Prop} : Cnd (!b) A B = Cnd b B A := by cases b <;> rfl
theorem Cnd_dec {A B p : Prop} [Decidable p] : Cnd (decide p) A B = ((p → A) ∧ (¬ p → B)) := by
  by_cases h : p
  · rw [decide_eq_true h]
    exact propext ⟨fun q => ⟨fun _ => q, fun z => absurd h z⟩, fun q => q.1 h⟩
  · rw [decide_eq_false h]
    exact propext ⟨fun q => ⟨fun z => absurd z h, fun _ => q⟩, fun q => q.2 h⟩
theorem asB_bool {K : Bool → Prop} : asB (.bool b) K = K b := rfl
theorem negD_int : negD (.int i) Q = Q (.int (-i)) := rfl
theorem notD_bool : notD (.bool b) Q = Q (.bool (!b)) := rfl
theorem onVal_val : onVal (.val d) Q = Q d := rfl
theorem onOwn_own {K : List D → Prop} : onOwn (.own ds) K = K ds := rfl
theorem onDic_dic {K : List (Key × D) → Prop} {kvs : List (Key × D)} : onDic (.dic kvs) K = K kvs := rfl
theorem onScr_scr {K : List Int → Prop} {ns : List Int} : onScr (.scr ns) K = K ns := rfl
theorem onWv_wv {K : Prop} : onWv .wv K = K := rfl
theorem onInt_int {K : Int → Prop} : onInt (.int i) K = K i := rfl
theorem onTup_tup {K : List D → Prop} : onTup (.tuple ds) K = K ds := rfl
theorem onLst_lst {K : List D → Prop} : onLst (.list ds) K = K ds := rfl
theorem onItems_lst {K : List D → Prop} : onItems (.list ds) K = K ds := rfl
theorem onItems_tup {K : List D → Prop} : onItems (.tuple ds) K = K ds := rfl
theorem frz1_own {K : List D → Prop} {L : Prop} : frz1 (.own ds) K L = K ds := rfl
theorem frz1_val {K : List D → Prop} {L : Prop} : frz1 (.val d) K L = L := rfl
theorem frz1_un {K : List D → Prop} {L : Prop} : frz1 .un K L = L := rfl
theorem ixD_lst : ixD (.list ds) e Q = ixL ds e Q := rfl
theorem ixD_tup : ixD (.tuple ds) e Q = ixL ds e Q := rfl
theorem ixL_int : ixL ds (.int i) Q = optD (atI ds i) Q := rfl
theorem optD_some : optD (some d) Q = Q d := rfl
theorem optI_some : optI (some i) Q = Q (.int i) := rfl
theorem absD_int : absD [.int i] Q = Q (.int (i.natAbs : Int)) := rfl
theorem intD_int : intD [.int i] Q = Q (.int i) := rfl
theorem intD_bool : intD [.bool b] Q = Q (.int (if b then 1 else 0)) := rfl
theorem lenD_lst : lenD [.list xs] Q = Q (.int xs.length) := rfl
theorem lenD_tup : lenD [.tuple xs] Q = Q (.int xs.length) := rfl
theorem lenD_str {z : Str} : lenD [.str z] Q = (z.length ≤ sizeLine ∧ Q (.int z.length)) := rfl
theorem tupleD_lst : tupleD [.list xs] Q = Q (.tuple xs) := rfl
theorem tupleD_tup : tupleD [.tuple xs] Q = Q (.tuple xs) := rfl
theorem listD_lst : listD [.list xs] Q = Q (.list xs) := rfl
theorem listD_tup : listD [.tuple xs] Q = Q (.list xs) := rfl
theorem min2D_int : min2D [.int i, .int j] Q = Q (.int (if j < i then j else i)) := rfl
theorem max2D_int : max2D [.int i, .int j] Q = Q (.int (if j > i then j else i)) := rfl
theorem sumD_ints {ns : List Int} : sumD [.list (ns.map .int)] Q = Q (.int ns.sum) := by unfold sumD; simp only [intsOf_map]
theorem allD_bls {ns : List Bool} : allD [.list (ns.map .bool)] Q = Q (.bool (ns.all id)) := by unfold allD; simp only [blsOf_map]
theorem anyD_bls {ns : List Bool} : anyD [.list (ns.map .bool)] Q = Q (.bool (ns.any id)) := by unfold anyD; simp only [blsOf_map]
theorem slD_lst {lo hi : Option Int} : slD (.list ds) lo hi Q = Q (.list (cutL ds lo hi)) := rfl
theorem slD_tup {lo hi : Option Int} : slD (.tuple ds) lo hi Q = Q (.tuple (cutL ds lo hi)) := rfl
theorem slD_str {lo hi : Option Int} {z : Str} : slD (.str z) lo hi Q = (z.length ≤ sizeLine ∧ Q (.str (cutS z lo hi))) := rfl
theorem gNl_nil {en : En} {K : En → Prop} : gNl [] en K = K en := rfl
theorem gCs_cons {g : DTG} {gs : DTGs} {en : En} {K : En → Prop} : gCs g gs (d :: ds) en K = g d en fun en' => gs ds en' K := rfl
theorem par2_two {m n : Nat} {en : En} {K : En → Prop} : par2 m n [d, e] en K = K ((en.set m (.val d)).set n (.val e)) := rfl
theorem seq1_lst {K : List D → Prop} : seq1 [.list xs] K = K xs := rfl
theorem seq1_tup {K : List D → Prop} : seq1 [.tuple xs] K = K xs := rfl
theorem rng1D_int {K : List D → Prop} : rng1D [.int j] K = ((-(2 ^ 62) ≤ j ∧ j < 2 ^ 62) ∧ K (rangeD 0 j.toNat)) := rfl
theorem rng2D_int {K : List D → Prop} : rng2D [.int i, .int j] K = ((-(2 ^ 62) ≤ i ∧ i < 2 ^ 62 ∧ -(2 ^ 62) ≤ j ∧ j < 2 ^ 62) ∧ K (rangeD i (j - i).toNat)) := rfl
theorem then_intro {s2 : DTS} {R : DEnds} {en : En} (h : s2 R en) : Then s2 R en := h
theorem gt_z : gt (s :: r) 0 = s := rfl
theorem gt_s {n : Nat} : gt (s :: r) (n + 1) = gt r n := rfl
theorem sp_next_int {K : D → Prop} : sp_next [.int i] K = (0 < i ∧ ∀ r : Int, 0 ≤ r → r < i → r < 997 → K (.int r)) := rfl
theorem set_z {α : Type} {x y : α} {r : List α} : (x :: r).set 0 y = y :: r := rfl
theorem set_s {α : Type} {x y : α} {r : List α} {n : Nat} : (x :: r).set (n + 1) y = x :: r.set n y := rfl
end

theorem while_byB {α : Type} {mt : DTT} {s1 : DTS} {R : DEnds} {en : En} (f : α → En) (P : α → Prop) (μ : α → Nat) (a0 : α) (he : en = f a0) (h0 : P a0)
    (turn : ∀ a, P a → mt (f a) fun b => Cnd b (s1 { nx := fun en' => ∃ a', en' = f a' ∧ P a' ∧ μ a' < μ a, ct := fun en' => ∃ a', en' = f a' ∧ P a' ∧ μ a' < μ a, bk := R.nx, rt := R.rt } (f a)) (R.nx (f a))) : dWhile mt s1 R en := by
  refine ⟨fun n en => ∃ a, en = f a ∧ P a ∧ μ a = n, ⟨_, a0, he, h0, rfl⟩, ?_⟩
  rintro n en ⟨a, rfl, h, rfl⟩
  have e : (fun en' => ∃ m, m < μ a ∧ ∃ a', en' = f a' ∧ P a' ∧ μ a' = m) = fun en' => ∃ a', en' = f a' ∧ P a' ∧ μ a' < μ a := by
    funext en'
    refine propext ⟨?_, ?_⟩
    · rintro ⟨m, hm, a', h1, h2, rfl⟩
      exact ⟨a', h1, h2, hm⟩
    · rintro ⟨a', h1, h2, h3⟩
      exact ⟨_, h3, a', h1, h2, rfl⟩
  rw [e]
  exact turn a h
theorem for_byB {α : Type} {g : DTG} {s1 : DTS} {ds : List D} {R : DEnds} {en : En} (f : α → En) (P : Nat → α → Prop) (a0 : α) (he : en = f a0) (h0 : P 0 a0)
    (turn : ∀ i d, ds[i]? = some d → ∀ a, P i a → g d (f a) fun en' => s1 { nx := fun en' => ∃ a', en' = f a' ∧ P (i + 1) a', ct := fun en' => ∃ a', en' = f a' ∧ P (i + 1) a', bk := R.nx, rt := R.rt } en')
    (fin : ∀ a, P ds.length a → R.nx (f a)) : ForW g s1 ds R en := by
  refine ⟨fun i en => ∃ a, en = f a ∧ P i a, ⟨a0, he, h0⟩, ?_, ?_⟩
  · rintro i d hd en ⟨a, rfl, h⟩
    exact turn i d hd a h
  · rintro en ⟨a, rfl, h⟩
    exact fin a h
/-- without break -/
theorem while_by {α : Type} {mt : DTT} {s1 : DTS} {R : DEnds} {en : En} (f : α → En) (P : α → Prop) (μ : α → Nat) (a0 : α) (he : en = f a0) (h0 : P a0)
    (turn : ∀ a, P a → ∀ bk : En → Prop, mt (f a) fun b => Cnd b (s1 { nx := fun en' => ∃ a', en' = f a' ∧ P a' ∧ μ a' < μ a, ct := fun en' => ∃ a', en' = f a' ∧ P a' ∧ μ a' < μ a, bk := bk, rt := R.rt } (f a)) (R.nx (f a))) : dWhile mt s1 R en :=
  while_byB f P μ a0 he h0 fun a h => turn a h R.nx
theorem for_by {α : Type} {g : DTG} {s1 : DTS} {ds : List D} {R : DEnds} {en : En} (f : α → En) (P : Nat → α → Prop) (a0 : α) (he : en = f a0) (h0 : P 0 a0)
    (turn : ∀ i d, ds[i]? = some d → ∀ a, P i a → ∀ bk : En → Prop, g d (f a) fun en' => s1 { nx := fun en' => ∃ a', en' = f a' ∧ P (i + 1) a', ct := fun en' => ∃ a', en' = f a' ∧ P (i + 1) a', bk := bk, rt := R.rt } en')
    (fin : ∀ a, P ds.length a → R.nx (f a)) : ForW g s1 ds R en := for_byB f P a0 he h0 (fun i d hd a h => turn i d hd a h R.nx) fin
/-- a comprehension whose test and item are a function of the item walked -/
theorem lc_fun {z : Bool} {g : DTG} {mt : DTT} {me : DTE} {vs : List Nat} {en : En} {Q : D → Prop} {ds : List D} (f : D → Option D)
    (hz : z = false → ds.length ≤ sizeLine) (h : ∀ d ∈ ds, ∀ P : Option D → Prop, P (f d) → g d (wipeE en vs) fun en' => mt en' fun b => Cnd b (me en' fun y => P (some y)) (P none)) (q : Q (.list (ds.filterMap f))) :
    LcW z g mt me vs ds en Q := by
  refine ⟨hz, fun i acc => acc = (ds.take i).filterMap f, rfl, fun i d acc e _ w => ?_, fun acc _ w => ?_⟩
  · subst w
    have hm : d ∈ ds := List.mem_of_getElem? e
    have et : (ds.take (i + 1)).filterMap f = (ds.take i).filterMap f ++ (f d).toList := by
      have e1 : List.filterMap f [d] = (f d).toList := by
        cases e : f d with
        | none => rw [List.filterMap_cons_none e]; rfl
        | some y => rw [List.filterMap_cons_some e]; rfl
      have e2 : ds.take (i + 1) = ds.take i ++ [d] := by rw [List.take_succ, e]; rfl
      rw [e2, List.filterMap_append, e1]
    have := h d hm (fun o => (ds.take i).filterMap f ++ o.toList = (ds.take (i + 1)).filterMap f) et.symm
    simp only [Option.toList, List.append_nil] at this
    exact this
  · have w : acc = (ds.take ds.length).filterMap f := w
    rw [List.take_length] at w
    subst w
    exact q
end Lay
namespace Lay
open PySem PySem.Spec L2
open PyProof.Rows hiding St

section
variable {X : Cx} {c : Ct} {e a b d : Expr} {es : List Expr} {m ma mb : DTE} {ml : DTA} {mt mu : DTT} {pos : Pos} {s1 : DTS}
theorem Reps.three {K : PySem.W.Frag} {F : Hp} {vs : List V} {d e f : D} (h : Reps K F vs [d, e, f]) : ∃ v u w, vs = [v, u, w] ∧ Rep K F v d ∧ Rep K F u e ∧ Rep K F w f := by
  cases h with
  | cons h1 h2 =>
    obtain ⟨u, w, rfl, h3, h4⟩ := h2.two
    exact ⟨_, _, _, rfl, h1, h3, h4⟩
/-- a, b, c = e1, e2, e3: three names at once -/
def par3 (i j l : Nat) (ds : List D) (en : En) (Q : En → Prop) : Prop := match ds with | [d, e, f] => Q (((en.set i (.val d)).set j (.val e)).set l (.val f)) | _ => False
def dPar3 (i j l : Nat) (ml : DTA) (R : DEnds) (en : En) : Prop := ml en fun ds => par3 i j l ds en R.nx
theorem ds_par3 {i j l : Nat} {x y z : Str} {px py pz pt : Pos} {kt k2 pt2} (hc : X.calm = true) (hN : X.N.Nodup) (hi : X.N[i]? = some x) (hj : X.N[j]? = some y) (hl : X.N[l]? = some z) (hij : i ≠ j) (hil : i ≠ l) (hjl : j ≠ l)
    (hx : X.env.scope.names.lookup x = some .local) (hy : X.env.scope.names.lookup y = some .local) (hz : X.env.scope.names.lookup z = some .local) (ha : DA X c [a, b, d] ml)
    (hw : swappedStores [.Tuple [.Name x px, .Name y py, .Name z pz] kt pt] (.Tuple [a, b, d] k2 pt2) X.env = pure (some [x, y, z]))
    (hs : swapsWithSole [.Tuple [.Name x px, .Name y py, .Name z pz] kt pt] (.Tuple [a, b, d] k2 pt2) pos.line X.env = pure false := by rfl) :
    DS X c (.Assign [.Tuple [.Name x px, .Name y py, .Name z pz] kt pt] (.Tuple [a, b, d] k2 pt2) pos) (dPar3 i j l ml) := by
  refine ⟨PS.imp (ps_par3 hc hN hi hj hl hij hil hjl hx hy hz ha.run hw hs) fun D σ H h => ?_⟩
  obtain ⟨F, en, R, r, h, k⟩ := h
  refine ⟨F, en, _, r, h, fun ds hd vs F' H' x rv hn => ?_⟩
  unfold par3 at hd
  split at hd
  · obtain ⟨v, u, w, rfl, r1, r2, r3⟩ := rv.three
    exact ⟨v, u, w, rfl, k.nx _ _ F' H' hd ((((r.grow x).set r1).set r2).set r3) x.ff⟩
  · exact hd.elim
theorem spar3 (i j l : Nat) {x y z : Str} {px py pz pt : Pos} {kt k2 pt2} (hN : X.N.Nodup) (ha : DA X c [a, b, d] ml) (hc : X.calm = true := by rfl) (hi : X.N[i]? = some x := by rfl) (hj : X.N[j]? = some y := by rfl) (hl : X.N[l]? = some z := by rfl) (hij : i ≠ j := by decide) (hil : i ≠ l := by decide) (hjl : j ≠ l := by decide)
    (hx : X.env.scope.names.lookup x = some .local := by rfl) (hy : X.env.scope.names.lookup y = some .local := by rfl) (hz : X.env.scope.names.lookup z = some .local := by rfl)
    (hw : swappedStores [.Tuple [.Name x px, .Name y py, .Name z pz] kt pt] (.Tuple [a, b, d] k2 pt2) X.env = pure (some [x, y, z]) := by rfl)
    (hs : swapsWithSole [.Tuple [.Name x px, .Name y py, .Name z pz] kt pt] (.Tuple [a, b, d] k2 pt2) pos.line X.env = pure false := by rfl) :
    DS X c (.Assign [.Tuple [.Name x px, .Name y py, .Name z pz] kt pt] (.Tuple [a, b, d] k2 pt2) pos) (dPar3 i j l ml) := ds_par3 hc hN hi hj hl hij hil hjl hx hy hz ha hw hs
theorem par3_three {i j l : Nat} {d e f : D} {en : En} {K : En → Prop} : par3 i j l [d, e, f] en K = K (((en.set i (.val d)).set j (.val e)).set l (.val f)) := rfl

def sortedD : DC := fun ds Q => match ds with | [.list xs] => (match intsOf xs with | some ns => ∀ ns' : List Int, ns'.Perm ns → ns'.Pairwise (· ≤ ·) → Q (.list (ns'.map .int)) | none => False) | _ => False
theorem sv_sorted {K : PySem.W.Frag} : ServesC K c (rSortedI K) sortedD := by
  intro F H vs ds R Q ex rv h k
  unfold sortedD at h
  split at h
  · split at h
    · rename_i ns q
      obtain ⟨v, rfl, r1⟩ := rv.one
      obtain ⟨p, ys, rfl, g1, g2, g3⟩ := r1.lstI
      rw [intsOf_eq q] at g2
      have e := g2.ints_inv
      subst e
      refine ⟨p, ns, rfl, SqL.of (ex.fh _ _ g1), fun ns' l hp hs hl => ?_⟩
      have g3' : (ns'.map PyData.int).length ≤ sizeLine := by
        rw [List.length_map, hp.length_eq]
        have := intsOf_eq q
        subst this
        rw [List.length_map] at g3
        exact g3
      obtain ⟨y1, y2⟩ := newLst ex hl (Reps.ints (F := F) (K := K) ns') g3'
      exact k _ (h ns' hp hs) _ _ _ y1 y2
    · exact h.elim
  · exact h.elim
theorem de_sorted {p : Pos} (hg : Gl X "sorted" := by rfl) (hm : X.mg "sorted" = none) (ha : DA X c [a] ml) (he : starEach [a] X.env = (false, eval a X.env) :: starEach [] X.env := by rfl) (hpl : (backTo pos (starEach [] X.env)).any (·.1) = false := by rfl) : DE X c (.Call (.Name "sorted" p) [a] [] pos) (dB sortedD ml) :=
  de_callB cr_sortedI sv_sorted hg hm boot_sorted ha (by decide) (by decide) he hpl
theorem sortedD_ints {ns : List Int} {Q : D → Prop} : sortedD [.list (ns.map .int)] Q = ∀ ns' : List Int, ns'.Perm ns → ns'.Pairwise (· ≤ ·) → Q (.list (ns'.map .int)) := by
  unfold sortedD
  simp only [intsOf_map]

theorem Reps.rev {K : PySem.W.Frag} {F : Hp} : ∀ {ds : List D} {vs : List V}, Reps K F vs ds → Reps K F vs.reverse ds.reverse
  | [], _, h => by cases h; exact .nil
  | d :: ds, _, h => by
    cases h with
    | cons h1 h2 =>
      rw [List.reverse_cons, List.reverse_cons]
      exact (Reps.rev h2).append (.cons h1 .nil)

theorem memD_int {n : Int} : ∀ ns : List Int, memD (.int n) (ns.map .int) = decide (n ∈ ns)
  | [] => rfl
  | k :: ns => by
    have q := memD_int (n := n) ns
    unfold memD at q ⊢
    rw [List.map_cons, List.any_cons, q]
    by_cases h : k = n
    · subst h; simp [eqv_int]
    · have h' : ¬ n = k := fun z => h z.symm
      simp [eqv_int, h, h']
theorem flat_ints : ∀ ns : List Int, (ns.map PyData.int).all flatD = true
  | [] => rfl
  | n :: ns => by rw [List.map_cons, List.all_cons, flat_ints ns]; rfl
theorem in_tup {neg : Bool} {n : Int} (ns : List Int) {Q : D → Prop} (h : Q (.bool (if neg then !decide (n ∈ ns) else decide (n ∈ ns)))) : inD neg (.int n) (.tuple (ns.map .int)) Q := by
  show (flatD (.int n) = true ∧ _) ∧ _
  refine ⟨⟨rfl, flat_ints ns⟩, ?_⟩
  rw [memD_int]; exact h
theorem in_lst {neg : Bool} {n : Int} (ns : List Int) {Q : D → Prop} (h : Q (.bool (if neg then !decide (n ∈ ns) else decide (n ∈ ns)))) : inD neg (.int n) (.list (ns.map .int)) Q := by
  show (flatD (.int n) = true ∧ _) ∧ _
  refine ⟨⟨rfl, flat_ints ns⟩, ?_⟩
  rw [memD_int]; exact h
end
end Lay
namespace Lay
open PySem PySem.Spec L2
open PyProof.Rows hiding St
theorem rangeD_ints (lo : Int) (n : Nat) : rangeD lo n = ((List.range n).map fun (i : Nat) => lo + (i : Int)).map .int := by
  unfold rangeD
  rw [List.map_map]
  rfl
section
variable {z : Bool} {g : DTG} {mt : DTT} {me : DTE} {vs : List Nat} {en : En} {Q : D → Prop}
/-- a comprehension that leaves all out -/
theorem lc_none {ds : List D} (hz : z = false → ds.length ≤ sizeLine) (h : ∀ d ∈ ds, ∀ P : Option D → Prop, P none → g d (wipeE en vs) fun en' => mt en' fun b => Cnd b (me en' fun y => P (some y)) (P none)) (q : Q (.list [])) : LcW z g mt me vs ds en Q := by
  refine lc_fun (fun _ => none) hz h ?_
  have e : List.filterMap (fun _ : D => (none : Option D)) ds = [] := by
    induction ds with
    | nil => rfl
    | cons d ds ih =>
      rw [List.filterMap_cons_none rfl]
      exact ih (fun h' => by have := hz h'; simp only [List.length_cons] at this; omega) fun d hd => h d (List.mem_cons_of_mem _ hd)
  rw [e]
  exact q
/-- over things that are told by a function -/
theorem lc_map {α β : Type} {xs : List α} (f : α → D) (k : β → D) (p : α → Option β) (hz : z = false → xs.length ≤ sizeLine)
    (h : ∀ x ∈ xs, ∀ P : Option D → Prop, P ((p x).map k) → g (f x) (wipeE en vs) fun en' => mt en' fun b => Cnd b (me en' fun y => P (some y)) (P none)) (q : Q (.list ((xs.filterMap p).map k))) : LcW z g mt me vs (xs.map f) en Q := by
  refine ⟨fun e => by rw [List.length_map]; exact hz e, fun i acc => acc = ((xs.take i).filterMap p).map k, rfl, fun i d acc e _ w => ?_, fun acc _ w => ?_⟩
  · subst w
    rw [List.getElem?_map] at e
    obtain ⟨x, ex, rfl⟩ := Option.map_eq_some_iff.mp e
    have hm : x ∈ xs := List.mem_of_getElem? ex
    have et : ((xs.take (i + 1)).filterMap p).map k = ((xs.take i).filterMap p).map k ++ ((p x).map k).toList := by
      have e1 : List.filterMap p [x] = (p x).toList := by
        cases e : p x with
        | none => rw [List.filterMap_cons_none e]; rfl
        | some y => rw [List.filterMap_cons_some e]; rfl
      have e2 : xs.take (i + 1) = xs.take i ++ [x] := by rw [List.take_succ, ex]; rfl
      rw [e2, List.filterMap_append, e1, List.map_append]
      cases p x <;> rfl
    have := h x hm (fun o => ((xs.take i).filterMap p).map k ++ o.toList = ((xs.take (i + 1)).filterMap p).map k) et.symm
    simp only [Option.toList, List.append_nil] at this
    exact this
  · subst w
    rw [List.length_map, List.take_length]
    exact q
/-- the ints that pass -/
theorem lc_ints {ns : List Int} (p : Int → Bool) (hz : z = false → ns.length ≤ sizeLine)
    (h : ∀ n ∈ ns, ∀ P : Option D → Prop, P (if p n then some (.int n) else none) → g (.int n) (wipeE en vs) fun en' => mt en' fun b => Cnd b (me en' fun y => P (some y)) (P none)) (q : Q (.list ((ns.filter p).map .int))) : LcW z g mt me vs (ns.map .int) en Q := by
  refine lc_map (p := fun n => if p n then some n else none) .int .int hz (fun n hn P hP => h n hn P ?_) ?_
  · cases e : p n <;> (rw [e] at hP; exact hP)
  · have e : ∀ l : List Int, l.filterMap (fun n => if p n then some n else none) = l.filter p := fun l => by
      induction l with
      | nil => rfl
      | cons n l ih =>
        cases e : p n
        · rw [List.filterMap_cons_none (by simp [e]), List.filter_cons_of_neg (by simp [e]), ih]
        · rw [List.filterMap_cons_some (by simp [e] : _ = some n), List.filter_cons_of_pos e, ih]
    rw [e]
    exact q
end
theorem one_nat : ((1 : Nat) : Int) = 1 := rfl
theorem two_nat : ((2 : Nat) : Int) = 2 := rfl
theorem three_nat : ((3 : Nat) : Int) = 3 := rfl
theorem atI_ofNat {α : Type} {xs : List α} {i : Nat} (h : i < xs.length) : atI xs (i : Int) = some xs[i] := atI_nat (List.getElem?_eq_getElem h)
theorem ix_map {α : Type} {xs : List α} {f : α → D} {i : Nat} {Q : D → Prop} (h : i < xs.length) (q : Q (f xs[i])) : optD (atI (xs.map f) (i : Int)) Q := by
  rw [atI_nat (v := f xs[i]) (by rw [List.getElem?_map, List.getElem?_eq_getElem h]; rfl)]
  exact q
theorem ix_mapI {α : Type} {xs : List α} {f : α → D} {i : Int} {Q : D → Prop} (h0 : 0 ≤ i) (h : i < xs.length) (q : Q (f (xs[i.toNat]'(by omega)))) : optD (atI (xs.map f) i) Q := by
  have e : i = ((i.toNat : Nat) : Int) := by omega
  rw [e]
  exact ix_map (by omega) q
/-- [] or not, of ints -/
theorem eqv_ints_nil : ∀ ns : List Int, PyData.eqv (.list (ns.map .int)) (.list []) = ns.isEmpty
  | [] => rfl
  | n :: ns => rfl
end Lay
namespace Lay
open PySem PySem.Spec L2 HT
open PyProof.Rows hiding St
section
variable {prog : Program} {w : World} {A : Around} {E : Value → Shared → Prop} {s : Shared}
theorem adjust_rev (n : Nat) : Builtin.Slice.sliceAdjust none none (-1) (n : Int) = ((n : Int) - 1, -1) := rfl
theorem places_rev (n : Nat) : Builtin.Slice.slicePlaces ((n : Int) - 1) (-1) (-1) = n := by
  unfold Builtin.Slice.slicePlaces
  have h1 : ¬ ((-1 : Int) > 0) := by omega
  simp only [h1, if_false]
  rw [show (-(-1) : Int) = 1 from rfl, Int.ediv_one]
  split <;> omega
theorem pick_rev (xs : Array Value) : ((List.range xs.size).filterMap fun (m : Nat) => xs[(((xs.size : Int) - 1) + (m : Int) * (-1)).toNat]?).toArray = xs.toList.reverse.toArray := by
  congr 1
  have key : ∀ k : Nat, k ≤ xs.size → ((List.range k).filterMap fun (m : Nat) => xs[(((xs.size : Int) - 1) + (m : Int) * (-1)).toNat]?) = xs.toList.reverse.take k := by
    intro k
    induction k with
    | zero => intro _; rfl
    | succ k ih =>
      intro hk
      rw [List.range_succ, List.filterMap_append, ih (by omega), List.take_succ]
      congr 1
      have e : (((xs.size : Int) - 1) + (k : Int) * (-1)).toNat = xs.size - 1 - k := by omega
      have e2 : xs.toList.reverse[k]? = xs[xs.size - 1 - k]? := by
        rw [List.getElem?_reverse (by simp; omega)]
        simp
      rw [e2]
      simp only [List.filterMap_cons, List.filterMap_nil, e]
      cases xs[xs.size - 1 - k]? <;> rfl
  rw [key xs.size (Nat.le_refl _)]
  exact List.take_of_length_le (by simp)
theorem sliceApplied_rev {sl : Addr} {vl vu vs : Value} {n : Nat} {Q : Int × Int × Nat → Shared → Prop} (hs : s.heap.IsSliceOf sl vl vu vs) (pl : IsPart vl none) (pu : IsPart vu none) (ps : IsPart vs (some (-1)))
    (h : Q ((n : Int) - 1, -1, n) s) : wpAny (model prog w) A (Builtin.Slice.sliceApplied (.ref sl) (pure (n : Int))) Q E s := by
  obtain ⟨os, hos, hcs, hds⟩ := id hs
  unfold Builtin.Slice.sliceApplied Builtin.Slice.sliceFields
  refine wpAny_bind (wpAny_bind (wpAny_field hos hds (x := vl) rfl (wpAny_bind (wpAny_field hos hds (x := vu) rfl (wpAny_bind (wpAny_field hos hds (x := vs) rfl (wpAny_pure ?_)))))))
  refine wpAny_bind (slicePart_ ps ?_)
  show wpAny _ _ (if ((-1 : Int) == 0) = true then _ else _) _ _ s
  rw [if_neg (by decide)]
  refine wpAny_bind (slicePart_ pl (wpAny_bind (slicePart_ pu (wpAny_bind (wpAny_pure ?_)))))
  show wpAny _ _ (match Builtin.Slice.sliceAdjust none none (-1) (n : Int) with | (lo, hi) => pure (lo, (-1 : Int), Builtin.Slice.slicePlaces lo hi (-1))) _ _ s
  rw [adjust_rev]
  show wpAny _ _ (pure ((n : Int) - 1, (-1 : Int), Builtin.Slice.slicePlaces ((n : Int) - 1) (-1) (-1))) _ _ s
  rw [places_rev]
  exact wpAny_pure h
theorem getItem_tuple_rev {t sl : Addr} {items : Array Value} {vl vu vs : Value} {Q : Value → Shared → Prop} (ht : IsTup s.heap t items) (hs : s.heap.IsSliceOf sl vl vu vs) (pl : IsPart vl none) (pu : IsPart vu none) (ps : IsPart vs (some (-1)))
    (h : Q (.ref s.heap.objs.size) { s with heap := s.heap.push { cls := .type "tuple", data := .seq items.toList.reverse.toArray } })
    (hsz : items.size ≤ sizeLine) : wpAny (model prog w) A (getItem (.ref t) (.ref sl)) Q E s := by
  have htake : sizeOk (.seq items.toList.reverse.toArray) := by
    show items.toList.reverse.toArray.size ≤ sizeLine
    rw [List.size_toArray, List.length_reverse, Array.length_toList]
    exact hsz
  obtain ⟨os, hos, hcs, hds⟩ := id hs
  have hTs : s.TypeIs (.ref sl) "slice" := ⟨os, hos, hcs⟩
  unfold getItem
  try with_reducible refine wpAny_holding ?_
  first | refine wpAny_bind (wpAny_pure ?_) | skip
  refine wpAny_bind (wpAny_sequenceKey ht.typeIs (by decide) ?_)
  refine wpAny_bind (wpAny_callSpecial?_slot (name := Str.ofString "__getitem__") ht.typeIs PyProof.Rows.slot_tuple_getitem
    (wpAny_call_entry PyProof.Rows.slot_tuple_getitem ht.typeIs entry_tuple_getitem ?_ (args_tuple_getitem _ _)))
  show wpAny _ _ (Builtin.Tuple.tupleItemsOf (.ref t) >>= _) _ _ s
  refine wpAny_bind (tupleItemsOf_ ht ?_)
  refine wpAny_bind (wpAny_typeOf hTs ?_)
  rw [if_pos (by decide)]
  refine wpAny_bind (sliceApplied_rev hs pl pu ps ?_)
  have hno : ¬ ((((items.size : Int) - 1) == 0 && (-1 : Int) == 1 && items.size == items.size) = true) := by
    intro q
    rw [Bool.and_eq_true, Bool.and_eq_true] at q
    exact absurd q.1.2 (by decide)
  show wpAny _ _ (if (((items.size : Int) - 1) == 0 && (-1 : Int) == 1 && items.size == items.size) = true then _ else _) _ _ s
  rw [if_neg hno, pick_rev]
  first
    | exact wpAny_bind (m := Builtin.Tuple.tupleExact _) (wpAny_newObj_type (wpAny_pure ⟨_, rfl, wpAny_pure h⟩) htake)
    | exact wpAny_bind (m := Builtin.Tuple.tupleExact _) (wpAny_newObj_type (wpAny_bind (wpAny_pure (wpAny_pure ⟨_, rfl, wpAny_pure h⟩))) htake)
    | exact wpAny_bind (wpAny_bind (m := Builtin.Tuple.tupleExact _) (wpAny_newObj_type (wpAny_pure (wpAny_pure ⟨_, rfl, wpAny_pure h⟩)) htake))
    | exact wpAny_bind (wpAny_bind (m := Builtin.Tuple.tupleExact _) (wpAny_newObj_type (wpAny_pure ⟨_, rfl, wpAny_pure h⟩) htake))
end
/-- xs[::-1], a list or a tuple -/
def tRev2 (K : PySem.W.Frag) (te : TE) : TE := fun σ H Q => te σ H fun x H1 => ∃ a xs, x = .ref a ∧ ((SqL K H1 a xs ∧ ∀ p, H1 p = none → Q (.ref p) (upd H1 p (.lst xs.reverse))) ∨ (SqT K H1 a xs ∧ ∀ p, H1 p = none → Q (.ref p) (upd H1 p (.tup xs.reverse))))
section
variable {X : Cx}
theorem pe_rev2 {e : Expr} {te : TE} {k : Nat} {p1 p2 p3 pos : Pos} (he : PE X e te) : PE X (.Subscript e (.Slice none none (some (.UnaryOp .USub (.Constant (.int 1) k p1) p2)) p3) pos) (tRev2 X.K te) := by
  refine ⟨fun pins s σ H Q I h => ?_⟩
  refine Subscript_ (thn (he.run pins s σ H _ I h) fun v s1 ⟨x, H1, I1, r1, q1⟩ => ?_)
  obtain ⟨a, xs, ex, q⟩ := q1
  subst ex
  cases r1
  have hst : PO X (some (.UnaryOp .USub (.Constant (.int 1) k p1) p2)) (tPart (tUn (rU fun i => .int (-i)) (tC (.int 1)))) := po_some (pe_un un_neg pe_int)
  refine wpAny_Slice (thn (po_none.run pins s1 σ H1 (fun o H2 => o = none ∧ H2 = H1) I1 ⟨rfl, rfl⟩) fun vl s2 ⟨l, H2, I2, pl, el, e2⟩ => ?_)
  subst el e2
  refine thn (po_none.run pins s2 σ H2 (fun o H3 => o = none ∧ H3 = H2) I2 ⟨rfl, rfl⟩) fun vu s3 ⟨u, H3, I3, pu, eu, e3⟩ => ?_
  subst eu e3
  refine thn (hst.run pins s3 σ H3 (fun o H4 => o = some (-1) ∧ H4 = H3) I3 ⟨1, rfl, -1, rfl, rfl, rfl⟩) fun vs s4 ⟨o, H4, I4, ps, eo, e4⟩ => ?_
  subst eo e4
  have I5 : Inv X pins σ H4 { s4 with heap := s4.heap.push { cls := .type "slice", data := .fields #[vl, vu, vs] } } := I4.kept (t' := s4.toks) fun b ob q => Heap.get?_push_of_some _ q
  show wpAny (model X.prog X.w) X.A (subscriptTail e (.Slice none none (some (.UnaryOp .USub (.Constant (.int 1) k p1) p2)) p3) (.ref a) (.ref s4.heap.objs.size)) (EP X pins σ Q) X.xe { s4 with heap := s4.heap.push { cls := .type "slice", data := .fields #[vl, vu, vs] } }
  rcases q with ⟨hx, q⟩ | ⟨hx, q⟩
  · obtain ⟨its, r, ht, hz⟩ := I5.list hx
    have hlen := r.length
    refine tail_any (ops := [.ref a, .ref s4.heap.objs.size]) ht.isList.typeIs (PySem.slot_list_getitem.lookup) ?_ (by with_unfolding_all rfl)
    refine wpAny_getItem_list_slice ht.isList (Heap.IsSliceOf.new _ vl vu vs) pl pu ps (by decide) ?_ (by rw [List.size_toArray]; omega)
    rw [PySem.W.krv_pick]
    refine ⟨.ref _, _, I5.laid (t' := s4.toks) (o := .lst xs.reverse) (fun b ob q => Heap.get?_push_of_some _ q) (Nat.le_refl _) ?_, rfl, q _ (I5.hok.fresh (Nat.le_refl _))⟩
    exact ⟨by rw [List.length_reverse]; exact hz, _, 0, r.reverse, Heap.get?_push_size _ rfl⟩
  · obtain ⟨its, r, ht, hz⟩ := I5.tuple hx
    have hlen := r.length
    refine tail_any (ops := [.ref a, .ref s4.heap.objs.size]) ht.typeIs (PyProof.Rows.slot_tuple_getitem.lookup) ?_ (by with_unfolding_all rfl)
    refine getItem_tuple_rev ht (Heap.IsSliceOf.new _ vl vu vs) pl pu ps ?_ (by rw [List.size_toArray]; omega)
    refine ⟨.ref _, _, I5.laid (t' := s4.toks) (o := .tup xs.reverse) (fun b ob q => Heap.get?_push_of_some _ q) (Nat.le_refl _) ?_, rfl, q _ (I5.hok.fresh (Nat.le_refl _))⟩
    exact ⟨by rw [List.length_reverse]; exact hz, _, r.reverse, IsTup.new _ _⟩
end
def revD (d : D) (Q : D → Prop) : Prop := match d with | .list ds => Q (.list ds.reverse) | .tuple ds => Q (.tuple ds.reverse) | _ => False
def dRev (m : DTE) (en : En) (Q : D → Prop) : Prop := m en fun d => revD d Q
theorem revD_lst {ds : List D} {Q : D → Prop} : revD (.list ds) Q = Q (.list ds.reverse) := rfl
theorem revD_tup {ds : List D} {Q : D → Prop} : revD (.tuple ds) Q = Q (.tuple ds.reverse) := rfl
theorem de_rev {X : Cx} {c : Ct} {e : Expr} {m : DTE} {pos : Pos} {k : Nat} {p1 p2 p3 : Pos} (he : DE X c e m) : DE X c (.Subscript e (.Slice none none (some (.UnaryOp .USub (.Constant (.int 1) k p1) p2)) p3) pos) (dRev m) := by
  refine ⟨PE.imp (pe_rev2 he.run) fun σ H Q h => ?_⟩
  obtain ⟨F, en, R, r, h, k⟩ := h
  refine ⟨F, en, _, r, h, fun d hd v F1 H1 x1 rv => ?_⟩
  unfold revD at hd
  split at hd
  · obtain ⟨p, ys, rfl, g1, g2, g3⟩ := rv.lstI
    refine ⟨p, ys, rfl, .inl ⟨SqL.of (x1.fh _ _ g1), fun t ht => ?_⟩⟩
    obtain ⟨y1, y2⟩ := newLst (c := c) x1.self ht g2.rev (by rw [List.length_reverse]; exact g3)
    exact k _ hd _ _ _ (x1.trans y1) y2
  · obtain ⟨p, ys, rfl, g1, g2, g3⟩ := rv.tupI
    refine ⟨p, ys, rfl, .inr ⟨sqT_mono x1.fh g1, fun t ht => ?_⟩⟩
    obtain ⟨y1, y2⟩ := newTup (c := c) x1.self ht g2.rev (by rw [List.length_reverse]; exact g3)
    exact k _ hd _ _ _ (x1.trans y1) y2
  · exact hd.elim
end Lay
namespace Lay
open PySem PySem.Spec L2
open PyProof.Rows hiding St
section
variable {X : Cx} {c : Ct} {mt : DTT} {pos : Pos}
theorem ssetLc (i : Nat) {y : Str} {py : Pos} {elt tg iter : Expr} {ifs : List Expr} {scope : Scope} {own : List (Str × Nat)} {sl : List Nat} {z : Bool} {mi : DTA} {g : DTG} {me : DTE} {spos : Pos} (hN : X.N.Nodup)
    (hi : DI X c tg iter z mi) (ok : BlkOk X.N X.env.scope scope own)
    (hg : ∀ (s : Shared) (H : Hp) (C : Addr) (cl : List (Str × Addr)) (fp : List Addr), DG (X.blk s H scope (compEnvC scope cl C X.env) fp) c tg sl g) (ht : ∀ (s : Shared) (H : Hp) (C : Addr) (cl : List (Str × Addr)) (fp : List Addr), DTs (X.blk s H scope (compEnvC scope cl C X.env) fp) c ifs mt)
    (he : ∀ (s : Shared) (H : Hp) (C : Addr) (cl : List (Str × Addr)) (fp : List Addr), DE (X.blk s H scope (compEnvC scope cl C X.env) fp) c elt me)
    (hc : X.calm = true := by rfl) (hy : X.N[i]? = some y := by rfl) (hyl : X.env.scope.names.lookup y = some .local := by rfl)
    (hsw : swapsWith (.ListComp elt [⟨tg, iter, ifs, 0⟩] scope pos) (some (.Name y py)) spos.line X.env = pure true := by rfl)
    (hsl : ∀ i ∈ sl, i ∈ own.map (·.2) := by decide) (hs : ∀ x, foldedSetIterable iter X.env x = pure x := by intro _; rfl) :
    DS X c (.Assign [.Name y py] (.ListComp elt [⟨tg, iter, ifs, 0⟩] scope pos) spos) (dAsg (dLc z mi g mt me (own.map (·.2))) (gNm i)) := ds_setLc hc hN hy hyl hsw hi ok hg ht he hsl hs
end
end Lay
namespace Lay
open PySem PySem.Spec L2 RZ
open PyProof.Rows hiding St
def zipD (xs ys : List D) : List D := List.zipWith (fun d e => .tuple [d, e]) xs ys
def zip2D (ds : List D) (Q : List D → Prop) : Prop := match ds with
  | [.list xs, .list ys] => Q (zipD xs ys)
  | [.tuple xs, .tuple ys] => Q (zipD xs ys)
  | _ => False
def dZip2 (ml : DTA) (en : En) (Q : List D → Prop) : Prop := ml en fun ds => zip2D ds Q
theorem zipD_get {xs ys : List D} {i : Nat} {d : D} (h : (zipD xs ys)[i]? = some d) : ∃ e f, d = .tuple [e, f] ∧ xs[i]? = some e ∧ ys[i]? = some f := by
  unfold zipD at h
  rw [List.getElem?_zipWith] at h
  cases e1 : xs[i]? with
  | none => rw [e1] at h; cases h
  | some e =>
    cases e2 : ys[i]? with
    | none => rw [e1, e2] at h; cases h
    | some f =>
      rw [e1, e2] at h
      cases h
      exact ⟨e, f, rfl, rfl, rfl⟩
section
variable {K : PySem.W.Frag} {wo : Option (Addr × Addr)} {F : Hp} {p q : Addr} {xs ys : List V} {ds es : List D}
theorem dwalk_zipL (hp : F p = some (.lst xs)) (hq : F q = some (.lst ys)) (r : Reps K F xs ds) (s : Reps K F ys es) : DWalk K wo (Itz K p q) F (zipD ds es) where
  go := fun i d F' H hF x e => by
    obtain ⟨d1, d2, rfl, e1, e2⟩ := zipD_get e
    obtain ⟨v, h1, _⟩ := r.get e1
    obtain ⟨u, h2, _⟩ := s.get e2
    exact ⟨xs, ys, v, u, SqL.of (x.fh _ _ (hF _ _ hp)), SqL.of (x.fh _ _ (hF _ _ hq)), h1, h2⟩
  yld := fun i d F' H x H' hF ex e y => by
    obtain ⟨d1, d2, rfl, e1, e2⟩ := zipD_get e
    obtain ⟨T, a, b, rfl, hT, rfl, g1, g2⟩ := y
    obtain ⟨v, h1, r1⟩ := r.get e1
    obtain ⟨u, h2, r2⟩ := s.get e2
    have q1 := g1 xs (SqL.of (ex.fh _ _ (hF _ _ hp)))
    have q2 := g2 ys (SqL.of (ex.fh _ _ (hF _ _ hq)))
    rw [h1] at q1
    rw [h2] at q2
    cases q1
    cases q2
    obtain ⟨y1, y2⟩ := newTup (c := ⟨wo, F', H⟩) ex hT (.cons (Rep.mono hF _ _ r1) (.cons (Rep.mono hF _ _ r2) .nil)) (by show 2 ≤ sizeLine; decide)
    exact ⟨_, y1, y2⟩
  stop := fun F' H hF x => ⟨xs, ys, SqL.of (x.fh _ _ (hF _ _ hp)), SqL.of (x.fh _ _ (hF _ _ hq)), by
    unfold zipD
    rw [List.length_zipWith, r.len, s.len]
    omega⟩
theorem dwalk_zipT (hp : SqT K F p xs) (hq : SqT K F q ys) (r : Reps K F xs ds) (s : Reps K F ys es) : DWalk K wo (ItzT K p q) F (zipD ds es) where
  go := fun i d F' H hF x e => by
    obtain ⟨d1, d2, rfl, e1, e2⟩ := zipD_get e
    obtain ⟨v, h1, _⟩ := r.get e1
    obtain ⟨u, h2, _⟩ := s.get e2
    exact ⟨xs, ys, v, u, sqT_mono x.fh (sqT_mono hF hp), sqT_mono x.fh (sqT_mono hF hq), h1, h2⟩
  yld := fun i d F' H x H' hF ex e y => by
    obtain ⟨d1, d2, rfl, e1, e2⟩ := zipD_get e
    obtain ⟨T, a, b, rfl, hT, rfl, g1, g2⟩ := y
    obtain ⟨v, h1, r1⟩ := r.get e1
    obtain ⟨u, h2, r2⟩ := s.get e2
    have q1 := g1 xs (sqT_mono ex.fh (sqT_mono hF hp))
    have q2 := g2 ys (sqT_mono ex.fh (sqT_mono hF hq))
    rw [h1] at q1
    rw [h2] at q2
    cases q1
    cases q2
    obtain ⟨y1, y2⟩ := newTup (c := ⟨wo, F', H⟩) ex hT (.cons (Rep.mono hF _ _ r1) (.cons (Rep.mono hF _ _ r2) .nil)) (by show 2 ≤ sizeLine; decide)
    exact ⟨_, y1, y2⟩
  stop := fun F' H hF x => ⟨xs, ys, sqT_mono x.fh (sqT_mono hF hp), sqT_mono x.fh (sqT_mono hF hq), by
    unfold zipD
    rw [List.length_zipWith, r.len, s.len]
    omega⟩
end
theorem di_zip2 {X : Cx} {c : Ct} {a b : Expr} {ml : DTA} {p pos tpos : Pos} {elts : List Expr} {kk : Nat} (hm : X.mg "zip" = none) (ha : DA X c [a, b] ml) (hg : Gl X "zip" := by rfl) (hs : starEach [a, b] X.env = (false, eval a X.env) :: starEach [b] X.env := by rfl) (hpl : (backTo pos (starEach [b] X.env)).any (·.1) = false := by rfl) :
    DI X c (.Tuple elts kk tpos) (.Call (.Name "zip" p) [a, b] [] pos) true (dZip2 ml) := by
  refine ⟨PI.imp (pi_zipA hg hm ha.run hs hpl) fun σ H Q h => ?_⟩
  obtain ⟨F, en, R, r, h, k⟩ := h
  refine ⟨F, en, _, r, h, fun ds hd vs F' H' x rv _ => ?_⟩
  unfold zip2D at hd
  split at hd
  · obtain ⟨v, u, rfl, r1, r2⟩ := rv.two
    obtain ⟨p1, xs, rfl, g1, g2, g3⟩ := r1.lstI
    obtain ⟨p2, ys, rfl, k1, k2, k3⟩ := r2.lstI
    exact ⟨p1, p2, xs, ys, rfl, .inl ⟨SqL.of (x.fh _ _ g1), SqL.of (x.fh _ _ k1), k _ hd _ F' H' x (dwalk_zipL g1 k1 g2 k2) fun _ => by unfold zipD; rw [List.length_zipWith]; omega⟩⟩
  · obtain ⟨v, u, rfl, r1, r2⟩ := rv.two
    obtain ⟨p1, xs, rfl, g1, g2, g3⟩ := r1.tupI
    obtain ⟨p2, ys, rfl, k1, k2, k3⟩ := r2.tupI
    exact ⟨p1, p2, xs, ys, rfl, .inr ⟨sqT_mono x.fh g1, sqT_mono x.fh k1, k _ hd _ F' H' x (dwalk_zipT g1 k1 g2 k2) fun _ => by unfold zipD; rw [List.length_zipWith]; omega⟩⟩
  · exact hd.elim
theorem zip2D_lst {xs ys : List D} {Q : List D → Prop} : zip2D [.list xs, .list ys] Q = Q (zipD xs ys) := rfl
theorem zip2D_tup {xs ys : List D} {Q : List D → Prop} : zip2D [.tuple xs, .tuple ys] Q = Q (zipD xs ys) := rfl
end Lay
namespace Lay
open PySem PySem.Spec L2
open PyProof.Rows hiding St
theorem Reps.setD {K : PySem.W.Frag} {F : Hp} {v : V} {d : D} (hd : Rep K F v d) : ∀ {ds : List D} {vs : List V} {j : Nat}, Reps K F vs ds → Reps K F (vs.set j v) (ds.set j d)
  | [], _, j, h => by cases h; exact .nil
  | e :: ds, _, 0, h => by
    cases h with
    | cons h1 h2 => exact .cons hd h2
  | e :: ds, _, j + 1, h => by
    cases h with
    | cons h1 h2 => exact .cons h1 (Reps.setD hd h2)
/-- x[e] = e2, x a list of the def's own -/
def dPut (i : Nat) (m mv : DTE) (R : DEnds) (en : En) : Prop := mv en fun d => onOwn (gt en i) fun xs => m en fun k => onInt k fun k => ∃ j, ixN xs.length k = some j ∧ R.nx (en.set i (.own (xs.set j d)))
section
variable {X : Cx} {c : Ct} {e a b : Expr} {m mv ma mb : DTE} {pos : Pos}
theorem sput (i : Nat) {x : Str} {px p2 : Pos} (hi : DE X c b m) (hv : DE X c e mv) (hN : X.N[i]? = some x := by rfl) (hvis : Vis X.env.scope x := by first | exact Or.inl rfl | exact Or.inr (Or.inl rfl) | exact Or.inr (Or.inr rfl)) (hd : (x == ("__debug__" : Str)) = false := by decide) (hcd : (x == ("__classdict__" : Str)) = false := by decide)
    (ha : ∀ v, assign (.Subscript (.Name x px) b p2) X.env v = (do
      let ov ← holding [v] (eval (.Name x px) X.env)
      let iv ← holding [v, ov] (eval b X.env)
      standAt p2
      holding [v, ov, iv] (setItem ov iv v)
      release [v, ov, iv] []) := by intro _; rfl)
    (hs : swapsWithSole [.Subscript (.Name x px) b p2] e pos.line X.env = pure false := by rfl) (hw : swappedStores [.Subscript (.Name x px) b p2] e X.env = pure none := by rfl)
    (h1 : (assignEach [.Subscript (.Name x px) b p2] X.env).map (·.2) = [assign (.Subscript (.Name x px) b p2) X.env] := by rfl) :
    DS X c (.Assign [.Subscript (.Name x px) b p2] e pos) (dPut i m mv) := by
  refine ⟨PS.imp (ps_asg hv.run (pg_sub (pe_var hN hvis hd hcd) hi.run set_list ha) hs hw h1) fun D σ H h => ?_⟩
  obtain ⟨F, en, R, r, h, k⟩ := h
  refine ⟨F, en, _, r, h, fun d hd v F1 H1 x1 rv => ?_⟩
  unfold onOwn at hd
  split at hd
  · rename_i xs hg
    have hen := gt_get hg (fun z => nomatch z)
    have g := r.grow x1
    obtain ⟨ov, e1, p, vs, e2, e3, e4, e5⟩ := g.sl i _ hen
    subst e2
    refine ⟨_, e1, F1, en, _, g, hd, fun kd hk kv F2 H2 x2 rk => ?_⟩
    cases kd with
    | int n =>
      cases rk
      obtain ⟨j, hj, hk⟩ := hk
      have g2 := g.grow x2
      have ha : ownAt σ en i p := ⟨e1, _, hen, rfl⟩
      have e3' := x2.hh _ _ e3 (g.notW ha)
      have e4' := Reps.mono x2.ff _ _ e4
      have rv' := Rep.mono x2.ff _ _ rv
      refine ⟨p, vs, n, j, rfl, rfl, e3', by rw [e4.len]; exact hj, ?_⟩
      refine k.nx _ _ F2 _ hk (g2.turn ha ⟨p, _, rfl, upd_same, Reps.setD rv' e4', ?_⟩) (fun b o q => x2.ff _ _ (x1.ff _ _ q))
      rw [List.length_set]
      exact e5
    | _ => exact False.elim hk
  · exact hd.elim
def isBD : D2 := fun d e Q => match d, e with | .bool a, .bool b => Q (.bool (decide (a = b))) | _, _ => False
def isNotBD : D2 := fun d e Q => match d, e with | .bool a, .bool b => Q (.bool (!decide (a = b))) | _, _ => False
theorem sv_isB {K : PySem.W.Frag} : Serves K c rIsB isBD := fun F H x y d e R Q ex rx ry h k => by
  unfold isBD at h
  split at h
  · cases rx; cases ry
    exact ⟨_, _, rfl, rfl, k _ h _ F H ex (.bl _)⟩
  · exact h.elim
theorem sv_isNotB {K : PySem.W.Frag} : Serves K c rNotB isNotBD := fun F H x y d e R Q ex rx ry h k => by
  unfold isNotBD at h
  split at h
  · cases rx; cases ry
    exact ⟨_, _, rfl, rfl, k _ h _ F H ex (.bl _)⟩
  · exact h.elim
theorem de_isB (ha : DE X c a ma) (hb : DE X c b mb) : DE X c (.Compare a [.Is] [b] pos) (dOp isBD ma mb) := de_cmp op_isBl sv_isB ha hb (nomark _)
theorem dt_isB (ha : DE X c a ma) (hb : DE X c b mb) : DT X c (.Compare a [.Is] [b] pos) (dT (dOp isBD ma mb)) := dt_cmp op_isBl sv_isB ha hb (nomark _)
theorem de_isNotB (ha : DE X c a ma) (hb : DE X c b mb) : DE X c (.Compare a [.IsNot] [b] pos) (dOp isNotBD ma mb) := de_cmp op_notBl sv_isNotB ha hb (nomark _)
theorem dt_isNotB (ha : DE X c a ma) (hb : DE X c b mb) : DT X c (.Compare a [.IsNot] [b] pos) (dT (dOp isNotBD ma mb)) := dt_cmp op_notBl sv_isNotB ha hb (nomark _)
theorem isBD_bl {a b : Bool} {Q : D → Prop} : isBD (.bool a) (.bool b) Q = Q (.bool (decide (a = b))) := rfl
theorem isNotBD_bl {a b : Bool} {Q : D → Prop} : isNotBD (.bool a) (.bool b) Q = Q (.bool (!decide (a = b))) := rfl
end
end Lay
namespace Lay
open PySem PySem.Spec L2
open PyProof.Rows hiding St
def putPar (i j : Nat) (m : DTE) (t : D) (en : En) (Q : En → Prop) : Prop := match t with
  | .tuple [d, e] => onOwn (gt en i) fun xs => m en fun k => onInt k fun k => ∃ q, ixN xs.length k = some q ∧ Q ((en.set i (.own (xs.set q d))).set j (.val e))
  | _ => False
def dPutPar (i j : Nat) (m mv : DTE) (R : DEnds) (en : En) : Prop := mv en fun t => putPar i j m t en R.nx
theorem putPar_two {i j : Nat} {m : DTE} {d e : D} {en : En} {Q : En → Prop} : putPar i j m (.tuple [d, e]) en Q = onOwn (gt en i) fun xs => m en fun k => onInt k fun k => ∃ q, ixN xs.length k = some q ∧ Q ((en.set i (.own (xs.set q d))).set j (.val e)) := rfl
section
variable {X : Cx} {c : Ct} {e a b : Expr} {m mv ma mb : DTE} {pos : Pos}
theorem sputPar (i j : Nat) {x y : Str} {px py p2 pt : Pos} {kt : Nat} (nd : X.N.Nodup) (hi : DE X c b m) (hv : DE X c e mv) (hc : X.calm = true := by rfl) (hN : X.N[i]? = some x := by rfl) (hM : X.N[j]? = some y := by rfl) (hvis : Vis X.env.scope x := by first | exact Or.inl rfl | exact Or.inr (Or.inl rfl) | exact Or.inr (Or.inr rfl)) (hd : (x == ("__debug__" : Str)) = false := by decide) (hcd : (x == ("__classdict__" : Str)) = false := by decide)
    (hx : Loc X.env.scope y := by first | exact Or.inl rfl | exact Or.inr rfl) (hf : X.fn y = true ∨ X.env.scope.names.lookup y = some .local := by first | exact .inl rfl | exact .inr rfl)
    (ha : ∀ v, assign (.Subscript (.Name x px) b p2) X.env v = (do
      let ov ← holding [v] (eval (.Name x px) X.env)
      let iv ← holding [v, ov] (eval b X.env)
      standAt p2
      holding [v, ov, iv] (setItem ov iv v)
      release [v, ov, iv] []) := by intro _; rfl)
    (hs1 : (assignEach [.Subscript (.Name x px) b p2, .Name y py] X.env).map (·.2) = assign (.Subscript (.Name x px) b p2) X.env :: (assignEach [.Name y py] X.env).map (·.2) := by rfl)
    (hs2 : (assignEach [.Name y py] X.env).map (·.2) = assign (.Name y py) X.env :: (assignEach [] X.env).map (·.2) := by rfl)
    (hn : (assignEach [.Subscript (.Name x px) b p2, .Name y py] X.env).length = 2 := by rfl) (hst : (assignEach [.Subscript (.Name x px) b p2, .Name y py] X.env).findIdx? (·.1) = none := by rfl)
    (hs : swapsWithSole [.Tuple [.Subscript (.Name x px) b p2, .Name y py] kt pt] e pos.line X.env = pure false := by rfl) (hw : swappedStores [.Tuple [.Subscript (.Name x px) b p2, .Name y py] kt pt] e X.env = pure none := by rfl)
    (h1 : (assignEach [.Tuple [.Subscript (.Name x px) b p2, .Name y py] kt pt] X.env).map (·.2) = [assign (.Tuple [.Subscript (.Name x px) b p2, .Name y py] kt pt) X.env] := by rfl) :
    DS X c (.Assign [.Tuple [.Subscript (.Name x px) b p2, .Name y py] kt pt] e pos) (dPutPar i j m mv) := by
  refine ⟨PS.imp (ps_asg hv.run (pg_tup hc (pgs_cons (pg_sub (pe_var hN hvis hd hcd) hi.run set_list ha) (pgs_cons (pg_name nd hM hx hf) pgs_nil hs2) hs1) hn hst) hs hw h1) fun D σ H h => ?_⟩
  obtain ⟨F, en, R, r, h, k⟩ := h
  refine ⟨F, en, _, r, h, fun t hd v F1 H1 x1 rv => ?_⟩
  unfold putPar at hd
  split at hd
  · rename_i d e
    obtain ⟨tp, us, rfl, g1, g2, g3⟩ := rv.tupI
    obtain ⟨v1, v2, rfl, rv1, rv2⟩ := g2.two
    refine ⟨tp, [v1, v2], rfl, sqT_mono x1.fh g1, rfl, ?_⟩
    unfold onOwn at hd
    split at hd
    · rename_i xs hg
      have hen := gt_get hg (fun z => nomatch z)
      have g := r.grow x1
      obtain ⟨ov, e1, p, vs, e2, e3, e4, e5⟩ := g.sl i _ hen
      subst e2
      refine ⟨v1, [v2], rfl, _, e1, F1, en, _, g, hd, fun kd hk kv F2 H2 x2 rk => ?_⟩
      cases kd with
      | int n =>
        cases rk
        obtain ⟨q, hq, hk⟩ := hk
        have g2 := g.grow x2
        have ha : ownAt σ en i p := ⟨e1, _, hen, rfl⟩
        have e3' := x2.hh _ _ e3 (g.notW ha)
        have e4' := Reps.mono x2.ff _ _ e4
        have rw1 := Rep.mono x2.ff _ _ rv1
        have rw2 := Rep.mono x2.ff _ _ rv2
        refine ⟨p, vs, n, q, rfl, rfl, e3', by rw [e4.len]; exact hq, ?_⟩
        refine ⟨v2, [], rfl, rfl, ?_⟩
        have gt := g2.turn ha (s := .own (xs.set q d)) ⟨p, _, rfl, upd_same, Reps.setD rw1 e4', by rw [List.length_set]; exact e5⟩
        exact k.nx _ _ F2 _ hk (gt.set rw2) (fun b o q => x2.ff _ _ (x1.ff _ _ q))
      | _ => exact False.elim hk
    · exact hd.elim
  · exact hd.elim
end
end Lay
namespace Lay
open PySem PySem.Spec L2
open PyProof.Rows hiding St
theorem SR.adopt {K : PySem.W.Frag} {c : Ct} {F F' H H' : Hp} {σ : St} {en : En} (r : SR K c F σ H en) (x : Ext c.wo F H F' H') {i : Nat} {p : Addr} {s : Sl} (hp : H p = none) (fp : F' p = none) (h : SlR K c F' H' (some (.ref p)) s) : SR K c F' (σ.set i (some (.ref p))) H' (en.set i s) := by
  have g := r.grow x
  have np : ∀ {j a}, ownAt σ en j a → a ≠ p := fun {j a} z => by
    obtain ⟨u, e, _⟩ := r.there z
    exact ne_of_none e hp
  have inv : ∀ {j a}, ownAt (σ.set i (some (.ref p))) (en.set i s) j a → (j = i ∧ a = p) ∨ (j ≠ i ∧ ownAt σ en j a) := fun {j a} z => by
    obtain ⟨e, u, eu, ou⟩ := z
    rcases get_set eu with ⟨q, e1, hl⟩ | ⟨q, e1⟩
    · subst q
      rw [List.getElem?_set_self (by rw [r.len]; exact hl)] at e
      cases e
      exact .inl ⟨rfl, rfl⟩
    · rw [List.getElem?_set_ne q] at e
      exact .inr ⟨fun z => q z.symm, e, u, e1, ou⟩
  refine ⟨g.ext, by simp [r.len], fun j u e => ?_, fun j a z => ?_, fun j k a z1 z2 => ?_, g.wn⟩
  · rcases get_set e with ⟨q, e1, hl⟩ | ⟨q, e1⟩
    · subst q e1
      exact ⟨_, by rw [List.getElem?_set_self (by rw [r.len]; exact hl)], h⟩
    · obtain ⟨w, e2, e3⟩ := g.sl j u e1
      exact ⟨w, by rw [List.getElem?_set_ne q]; exact e2, e3⟩
  · rcases inv z with ⟨_, e⟩ | ⟨_, z⟩
    · subst e
      exact ⟨fp, r.ext.wne hp, r.ext.back hp⟩
    · exact g.own j a z
  · rcases inv z1 with ⟨e1, e2⟩ | ⟨n1, y1⟩
    · rcases inv z2 with ⟨e3, e4⟩ | ⟨n2, y2⟩
      · rw [e1, e3]
      · exact absurd e2 (np y2)
    · rcases inv z2 with ⟨e3, e4⟩ | ⟨n2, y2⟩
      · exact absurd e4 (np y1)
      · exact g.apart j k a y1 y2
def dOwnC (i : Nat) (m : DTE) (R : DEnds) (en : En) : Prop := m en fun d => onLst d fun xs => R.nx (en.set i (.own xs))
section
variable {X : Cx} {c : Ct} {mt : DTT} {pos : Pos}
theorem lift_lcO {K : PySem.W.Frag} {z : Bool} {mi : DTA} {g : DTG} {mt : DTT} {me : DTE} {vs sl : List Nat} (hsl : ∀ i ∈ sl, i ∈ vs) {σ : St} {H : Hp} {Q : VK} {F : Hp} {en : En} {R : D → Prop} (r : SR K c F σ H en) (h : dLc z mi g mt me vs en R)
    (k : ∀ acc vacc Fc Hc p, R (.list acc) → Ext c.wo F H Fc Hc → H p = none → Hc p = some (.lst vacc) → Fc p = none → Reps K Fc vacc acc → acc.length ≤ sizeLine → Q (.ref p) Hc) :
    tLc (liftI K c z mi) (liftG K c sl g) (liftT K c mt) (liftE K c me) vs σ H Q := by
  refine ⟨F, en, _, r, h, fun ds hd J F1 H1 x1 w hz => ?_⟩
  intro D1 hD
  obtain ⟨hlen, W, w0, turn, fin⟩ := hd
  have hl : ds.length ≤ sizeLine := by
    cases z with
    | true => exact hz rfl
    | false => exact hlen rfl
  have fD : F1 D1 = none := by
    cases q : F1 D1 with
    | none => rfl
    | some u => rw [x1.fh _ _ q] at hD; cases hD
  refine ⟨fun i m Hc => m = ds.length - i ∧ i ≤ ds.length ∧ ∃ Fc acc vacc, Ext c.wo F1 H1 Fc Hc ∧ Hc D1 = some (.lst vacc) ∧ Fc D1 = none ∧ Reps K Fc vacc acc ∧ acc.length ≤ i ∧ W i acc,
    ⟨ds.length, by simp, Nat.zero_le _, F1, [], [], x1.self.poke hD fD (x1.wne hD), upd_same, fD, .nil, Nat.le_refl _, w0⟩, ?_⟩
  rintro i m Hc ⟨rfl, hi, Fc, acc, vacc, xc, hc, fc, rc, hacc, wc⟩
  by_cases hlt : i < ds.length
  · have ed : ds[i]? = some ds[i] := List.getElem?_eq_getElem hlt
    refine .inr ⟨w.go i _ Fc Hc xc.ff xc.self ed, fun H' => ∃ Fc acc vacc, Ext c.wo F1 H1 Fc H' ∧ H' D1 = some (.lst vacc) ∧ Fc D1 = none ∧ Reps K Fc vacc acc ∧ acc.length ≤ i + 1 ∧ W (i + 1) acc, fun H' h' => ⟨ds.length - (i + 1), by omega, rfl, hlt, h'⟩, fun x H' y => ?_⟩
    obtain ⟨F2, x2, rx⟩ := w.yld i _ Fc Hc x H' xc.ff xc.self ed y
    have nD : ∀ {F3 H3 : Hp}, Ext c.wo Fc Hc F3 H3 → H3 D1 = some (.lst vacc) ∧ F3 D1 = none := fun {F3 H3} x3 => by
      refine ⟨x3.hh _ _ hc fun ⟨d, q⟩ => (x1.wne hD _ q).1 rfl, ?_⟩
      cases q : F3 D1 with
      | none => rfl
      | some u =>
        have := x3.nw _ _ q fc
        rw [hc] at this; rcases this with this | ⟨_, this⟩ <;> cases this
    have r0 := ((r.grow x1).grow xc).grow x2
    refine ⟨F2, wipeE en vs, ds[i], _, r0.wipe vs, rx, turn i _ acc ed hacc wc, fun en' σ' h' r' k' => ?_⟩
    refine ⟨wipe_same (k'.1.trans (wipe_length _ _)) fun j hj => k'.2 j fun z => hj (hsl j z), F2, en', _, r', h', fun bb hb F3 H3 x3 => ?_⟩
    cases bb with
    | true =>
      refine ⟨F3, en', _, r'.grow x3, hb, fun yd hy yv F4 H4 x4 ry => ?_⟩
      have xx := x2.trans (x3.trans x4)
      obtain ⟨n1, n2⟩ := nD xx
      refine ⟨vacc, n1, by rw [rc.len]; omega, F4, acc ++ [yd], vacc ++ [yv], (xc.trans xx).poke hD n2 (x1.wne hD), upd_same, n2, (Reps.mono xx.ff _ _ rc).append (.cons ry .nil), by rw [List.length_append, List.length_singleton]; omega, hy⟩
    | false =>
      have xx := x2.trans x3
      obtain ⟨n1, n2⟩ := nD xx
      exact ⟨F3, acc, vacc, xc.trans xx, n1, n2, Reps.mono xx.ff _ _ rc, by omega, hb⟩
  · have e : i = ds.length := by omega
    subst e
    refine .inl ⟨w.stop Fc Hc xc.ff xc.self, ?_⟩
    have hD0 : H D1 = none := x1.back hD
    exact k acc vacc Fc Hc D1 (fin acc hacc wc) (x1.trans xc) hD0 hc fc rc (Nat.le_trans hacc hl)
theorem sownLc (i : Nat) {y : Str} {py : Pos} {elt tg iter : Expr} {ifs : List Expr} {scope : Scope} {own : List (Str × Nat)} {sl : List Nat} {z : Bool} {mi : DTA} {g : DTG} {me : DTE} {spos : Pos} (hN : X.N.Nodup)
    (hi : DI X c tg iter z mi) (ok : BlkOk X.N X.env.scope scope own)
    (hg : ∀ (s : Shared) (H : Hp) (C : Addr) (cl : List (Str × Addr)) (fp : List Addr), DG (X.blk s H scope (compEnvC scope cl C X.env) fp) c tg sl g) (ht : ∀ (s : Shared) (H : Hp) (C : Addr) (cl : List (Str × Addr)) (fp : List Addr), DTs (X.blk s H scope (compEnvC scope cl C X.env) fp) c ifs mt)
    (he : ∀ (s : Shared) (H : Hp) (C : Addr) (cl : List (Str × Addr)) (fp : List Addr), DE (X.blk s H scope (compEnvC scope cl C X.env) fp) c elt me)
    (hc : X.calm = true := by rfl) (hy : X.N[i]? = some y := by rfl) (hyl : X.env.scope.names.lookup y = some .local := by rfl)
    (hsw : swapsWith (.ListComp elt [⟨tg, iter, ifs, 0⟩] scope pos) (some (.Name y py)) spos.line X.env = pure true := by rfl)
    (hsl : ∀ i ∈ sl, i ∈ own.map (·.2) := by decide) (hs : ∀ x, foldedSetIterable iter X.env x = pure x := by intro _; rfl) :
    DS X c (.Assign [.Name y py] (.ListComp elt [⟨tg, iter, ifs, 0⟩] scope pos) spos) (dOwnC i (dLc z mi g mt me (own.map (·.2)))) := by
  refine ⟨PS.imp (ps_setLc (te := liftE X.K c me) (tt := liftT X.K c mt) (g := liftG X.K c sl g) (i := i) hc hN hy hyl hsw hi.run ok (fun s H C cl fp => (hg s H C cl fp).run) (fun s H C cl fp => (ht s H C cl fp).run) (fun s H C cl fp => (he s H C cl fp).run) hs) fun D σ H h => ?_⟩
  obtain ⟨F, en, R, r, h, k⟩ := h
  refine lift_lcO hsl r h fun acc vacc Fc Hc p hR x hp hc fp rs hl => ?_
  exact k.nx _ _ Fc Hc hR (r.adopt x hp fp ⟨p, vacc, rfl, hc, rs, hl⟩) x.ff
end
end Lay
namespace Lay
open PySem PySem.Spec L2 SrtO
open PyProof.Rows hiding St
def lexI : List Int → List Int → Bool
  | x :: xs, y :: ys => if x = y then lexI xs ys else decide (x < y)
  | _, _ => false
theorem lexI_swo : ∀ (n : Nat) (x y z : List Int), x.length = n → y.length = n → z.length = n → (lexI x y = true → lexI y x = false) ∧ (lexI x y = false → lexI y z = false → lexI x z = false) := by
  intro n
  induction n with
  | zero =>
    intro x y z hx hy hz
    have ex := List.eq_nil_of_length_eq_zero hx
    subst ex
    exact ⟨(fun h => nomatch h), fun _ _ => rfl⟩
  | succ n ih =>
    intro x y z hx hy hz
    match x, y, z, hx, hy, hz with
    | a :: x, b :: y, c :: z, hx, hy, hz =>
      obtain ⟨i1, i2⟩ := ih x y z (by simpa using hx) (by simpa using hy) (by simpa using hz)
      simp only [lexI]
      refine ⟨fun h => ?_, fun h1 h2 => ?_⟩
      · by_cases e : a = b
        · subst e
          rw [if_pos rfl] at h ⊢
          exact i1 h
        · rw [if_neg e, decide_eq_true_eq] at h
          rw [if_neg (fun z => e z.symm), decide_eq_false_iff_not]
          omega
      · by_cases e : a = b
        · subst e
          rw [if_pos rfl] at h1
          by_cases e2 : a = c
          · subst e2
            rw [if_pos rfl] at h2 ⊢
            exact i2 h1 h2
          · rw [if_neg e2] at h2 ⊢
            exact h2
        · rw [if_neg e, decide_eq_false_iff_not] at h1
          by_cases e2 : b = c
          · subst e2
            rw [if_neg e, decide_eq_false_iff_not]
            exact h1
          · rw [if_neg e2, decide_eq_false_iff_not] at h2
            rw [if_neg (by omega), decide_eq_false_iff_not]
            omega
section
variable {prog : Program} {w : World} {A : Around} {s : Shared}
theorem lex_walk {fin : Bool} : ∀ {xs ys : List Value} {ns ms : List Int}, IntsAre xs ns → IntsAre ys ms → ns.length = ms.length → fin = false → ∀ (i : Nat), PySem.W.KatLex prog w A true fin (fun r s' => s' = s ∧ r = lexI ns ms) (xs.zip ys) i s
  | _, _, _, _, .nil, .nil, _, hf, i => PySem.W.kat_nil ⟨rfl, by rw [hf]; rfl⟩
  | _, _, _, _, .nil, .cons _ _ _, h, _, _ => by simp at h
  | _, _, _, _, .cons _ _ _, .nil, h, _, _ => by simp at h
  | _, _, _, _, .cons n t r, .cons m u q, h, hf, i => by
    refine PySem.W.kat_cons (SeqAt.EqAt.int_int n t m u prog w _ _ ?_)
    refine PySem.W.kat_go (fun e1 => ?_) (fun e1 => ?_)
    · have ex : n = m := by simpa using e1
      subst ex
      have := lex_walk (fin := fin) r q (by simpa using h) hf (i + 1)
      refine PySem.W.kat_yes ?_
      simp only [lexI, if_true]
      exact this
    · have ex : ¬ n = m := by simpa using e1
      refine PySem.W.kat_no ?_
      simp only [lexI, if_neg ex]
      cases hi : (true && i == 0)
      · exact PySem.W.kat_one _ _ (PyProof.Rows.lt_int ⟨rfl, rfl⟩)
      · exact oneLt_int ⟨rfl, rfl⟩
theorem swo_lexI {d : Nat} {k : Value → List Int} (hk : ∀ v, (k v).length = d) : Swo fun v u => lexI (k v) (k u) :=
  ⟨fun x y h => (lexI_swo d (k x) (k y) (k y) (hk x) (hk y) (hk y)).1 h, fun x y z h1 h2 => (lexI_swo d (k z) (k y) (k x) (hk z) (hk y) (hk x)).2 h2 h1⟩
theorem tups_cmp {d : Nat} {vs : List Value} {k : Value → List Int} (hk : ∀ v, (k v).length = d) (hp : ∀ v ∈ vs, TS.TupInts s.heap v (k v)) : Cmp prog w A s (tuples' true) (fun p => p.1 ∈ vs) (lt2 fun v u => lexI (k v) (k u)) := by
  intro p q hm hm'
  obtain ⟨a, xs, e, ⟨o, ho, hc, n, hd⟩, i⟩ := hp _ hm
  obtain ⟨a', xs', e', ⟨o', ho', hc', n', hd'⟩, i'⟩ := hp _ hm'
  show wpAny (model prog w) A (keyLt' (tuples' true) p.1 q.1) (fun r s' => s' = s ∧ r = lexI (k p.1) (k q.1)) (fun _ _ => False) s
  have hl : (k p.1).length = (k q.1).length := by rw [hk, hk]
  generalize k p.1 = ns at i hl ⊢
  generalize k q.1 = ms at i' hl ⊢
  rw [e, e']
  refine PySem.W.kat_lt ho hd ho' hd' ?_
  refine lex_walk i i' hl ?_ 0
  have l1 := i.length
  have l2 := i'.length
  rw [Array.length_toList] at l1 l2
  exact decide_eq_false (by omega)
theorem firstsN {h : Heap} {d : Nat} {k : Value → List Int} (hd : 1 ≤ d) (hk : ∀ v, (k v).length = d) : ∀ vs : List Value, (∀ v ∈ vs, TS.TupInts h v (k v)) → ∃ fs, PySem.W.KatTups h vs fs ∧ fs.length = vs.length ∧ ∀ f, f ∈ fs → ∃ n t, f = Value.int n t
  | [], _ => ⟨[], PySem.W.KatTups.nil, rfl, fun f hf => by simp at hf⟩
  | v :: vs, x => by
    obtain ⟨fs, kk, hl, hi⟩ := firstsN hd hk vs fun u hu => x u (List.mem_cons_of_mem _ hu)
    obtain ⟨a, xs, e0, ⟨o, ho, hc, n, hdt⟩, i⟩ := x v (List.mem_cons_self ..)
    obtain ⟨y, ys, e⟩ : ∃ y ys, xs.toList = y :: ys := by
      cases q : xs.toList with
      | nil =>
        rw [q] at i
        have l := i.length
        rw [List.length_nil, hk] at l
        omega
      | cons y ys => exact ⟨y, ys, rfl⟩
    obtain ⟨m, t, hy⟩ := i.all y (by rw [e]; exact List.mem_cons_self ..)
    rw [e0]
    refine ⟨y :: fs, PySem.W.KatTups.cons ho hc hdt ?_ kk, by simp [hl], ?_⟩
    · have z := congrArg (fun l : List Value => l[0]?) e
      simpa using z
    · intro f hf
      rcases List.mem_cons.mp hf with rfl | hf
      · exact ⟨m, t, hy⟩
      · exact hi f hf
theorem tups_sortableO {a : Addr} {vs : List Value} {d : Nat} {k : Value → List Int} (h0 : 0 < vs.length) (hd : 1 ≤ d) (hk : ∀ v, (k v).length = d) (hp : ∀ v ∈ vs, TS.TupInts s.heap v (k v)) (ha : ∀ o, s.heap.get? a = some o → o.cls ≠ .type "tuple") : SortableO prog w A s a vs fun v u => lexI (k v) (k u) := by
  intro h' keep
  have hp' : ∀ v ∈ vs, TS.TupInts h' v (k v) := fun v hm => (hp v hm).keeps fun b o e c => keep b o (fun z => by subst z; exact ha o e c) e
  obtain ⟨fs, h1, h2, h3⟩ := firstsN hd hk vs hp'
  refine ⟨tuples' true, fun Q E hq => ?_, tups_cmp (s := { s with heap := h' }) hk hp'⟩
  refine PySem.W.kat_kind (T := .type "int") h1 (by omega) (fun f hm => ?_) (by rfl) ?_
  · obtain ⟨x, t, rfl⟩ := h3 f hm
    exact PySem.W.Looks.now
  · have e : (Value.type "int" != Value.type "tuple") = true := by first | decide +kernel | rfl | decide
    rw [e]
    exact hq
theorem sorted_tupsO {l : Addr} {vs : List Value} {d : Nat} {k : Value → List Int} {E : Value → Shared → Prop} {Q : Value → Shared → Prop} (hl : s.heap.IsList l vs.toArray) (hz : vs.length ≤ sizeLine) (hd : 1 ≤ d) (hk : ∀ v, (k v).length = d) (hp : ∀ v ∈ vs, TS.TupInts s.heap v (k v))
    (h : ∀ (h' : Heap) (d : Addr) (out : List Value), Srtd (fun v u => lexI (k v) (k u)) out → Stb (fun v u => lexI (k v) (k u)) out vs → (∀ b o, s.heap.get? b = some o → h'.get? b = some o) → s.heap.objs.size ≤ d → (∃ n, h'.get? d = some (seqObj "list" out.toArray n)) → Q (.ref d) { s with heap := h' }) :
    wpAny (model prog w) A (call (.builtin "sorted") [.ref l]) Q E s := by
  refine sorted_ord (swo_lexI hk) hl hz (fun h2 h₁ a ha kk => ?_) fun out hs hb => ?_
  · refine tups_sortableO (s := { s with heap := h₁ }) (by omega) hd hk (fun v hm => (hp v hm).keeps fun b o e _ => (kk b o e).2) fun o e => ?_
    have e' : some o = some (seqObj "list" vs.toArray 0) := e.symm.trans ha
    cases e'
    intro c
    exact absurd (Value.type.inj c) (by decide)
  · exact h _ _ out hs hb (fun b o e => sortedAll_old e) (Nat.le_succ _) (sortedAll_at s.heap vs out.toArray)
end
/-- sorted(xs), xs a list of tuples of d ints: a new list of the same, ascending -/
def rSortedN (K : PySem.W.Frag) : List V → Hp → VK → Prop := fun vs H Q => ∃ (a : Addr) (ps : List (V × List Int)) (d : Nat), vs = [V.ref a] ∧ SqL K H a (ps.map (·.1)) ∧ 1 ≤ d ∧ (∀ p ∈ ps, p.2.length = d ∧ ∃ t, p.1 = V.ref t ∧ SqT K H t (p.2.map V.int)) ∧
  ∀ (qs : List (V × List Int)) (p : Addr), qs.Perm ps → qs.Pairwise (fun x y => lexI y.2 x.2 = false) → H p = none → Q (.ref p) (upd H p (.lst (qs.map (·.1))))
theorem cr_sortedN {X : Cx} : CallR X (.builtin "sorted") (rSortedN X.K) := by
  intro pins s σ H vs us Q I r h
  obtain ⟨a, ps, d, rfl, hs, hd, hx, q⟩ := h
  obtain ⟨its, rv, hl, hz⟩ := I.list hs
  obtain ⟨u, rfl, ru⟩ := vals1 r
  obtain rfl : u = Value.ref a := ru
  obtain ⟨e1, e2⟩ := refs_back rv fun x m => by
    obtain ⟨p, hp, rfl⟩ := List.mem_map.mp m
    obtain ⟨_, t, e, _⟩ := hx p hp
    exact ⟨t, e⟩
  -- the keys, read off the heap
  let k : Value → List Int := fun v => if (TS.intsOf s.heap v).length = d then TS.intsOf s.heap v else List.replicate d 0
  have hk : ∀ v, (k v).length = d := fun v => by
    show (if _ then _ else _ : List Int).length = d
    split
    · assumption
    · exact List.length_replicate
  have hraw : ∀ p ∈ ps, ∀ v : Value, p.1 = backV v → (∃ t, v = Value.ref t) → TS.TupInts s.heap v p.2 ∧ k v = p.2 := fun p hp v e ⟨t, et⟩ => by
    subst et
    obtain ⟨hl, t', e', hT⟩ := hx p hp
    rw [e] at e'
    cases e'
    have ht := tupI_raw I hT
    have := ht.ints
    refine ⟨ht, ?_⟩
    show (if _ then _ else _ : List Int) = _
    rw [this, if_pos hl]
  have epair : ∀ (ps : List (V × List Int)) (its : List Value), ps.map (·.1) = its.map backV → (∀ p ∈ ps, ∀ v : Value, p.1 = backV v → (∃ t, v = Value.ref t) → TS.TupInts s.heap v p.2 ∧ k v = p.2) → (∀ u ∈ its, ∃ a, u = Value.ref a) → ps = its.map fun v => (backV v, k v) := by
    intro ps
    induction ps with
    | nil => intro its h _ _; cases its with | nil => rfl | cons _ _ => simp at h
    | cons p ps ih =>
      intro its h h1 h2
      cases its with
      | nil => simp at h
      | cons v its =>
        rw [List.map_cons, List.map_cons] at h
        obtain ⟨ha, hb⟩ := List.cons.inj h
        rw [List.map_cons, ← ih its hb (fun p hp => h1 p (List.mem_cons_of_mem _ hp)) fun u hu => h2 u (List.mem_cons_of_mem _ hu)]
        congr 1
        refine Prod.ext ha ?_
        exact (h1 p List.mem_cons_self v ha (h2 v List.mem_cons_self)).2.symm
  have eps := epair ps its e1 hraw e2
  refine sorted_tupsO (d := d) (k := k) hl.isList (by rw [← rv.length]; exact hz) hd hk (fun v hv => ?_) fun h' d' out h1 h2 kp hd' hn => ?_
  · have hm : (backV v, k v) ∈ ps := by rw [eps]; exact List.mem_map.mpr ⟨v, hv, rfl⟩
    exact (hraw _ hm v rfl (e2 v hv)).1
  · have h3 : ∀ u ∈ out, ∃ a, u = Value.ref a := fun u hu => e2 u (h2.perm.mem_iff.mp hu)
    obtain ⟨n, hn⟩ := hn
    have hp : (out.map fun v => (backV v, k v)).Perm ps := by
      rw [eps]
      exact h2.perm.map _
    have hsr : (out.map fun v => (backV v, k v)).Pairwise (fun x y => lexI y.2 x.2 = false) := by
      rw [List.pairwise_map]
      exact h1
    have emap : (out.map fun v => (backV v, k v)).map (·.1) = out.map backV := by rw [List.map_map]; rfl
    have hfin := q _ d' hp hsr (I.hok.fresh hd')
    rw [emap] at hfin
    refine ⟨.ref d', upd H d' (.lst (out.map backV)), I.laid (t' := s.toks) kp hd' ⟨?_, out, n, vals_back h3, hn⟩, rfl, hfin⟩
    rw [List.length_map, h2.perm.length_eq]
    have := rv.length
    omega
def tupD (n : List Int) : D := .tuple (n.map .int)
def sortedTD : DC := fun ds Q => match ds with
  | [.list xs] => ∃ (ns : List (List Int)) (d : Nat), xs = ns.map tupD ∧ 1 ≤ d ∧ (∀ n ∈ ns, n.length = d) ∧ ∀ ms : List (List Int), ms.Perm ns → ms.Pairwise (fun x y => lexI y x = false) → Q (.list (ms.map tupD))
  | _ => False
theorem reps_pairs {K : PySem.W.Frag} {F : Hp} : ∀ {vs : List V} {ns : List (List Int)}, Reps K F vs (ns.map tupD) → (vs.zip ns).map (·.1) = vs ∧ (vs.zip ns).map (·.2) = ns ∧ ∀ p ∈ vs.zip ns, Rep K F p.1 (tupD p.2)
  | _, [], h => by cases h; exact ⟨rfl, rfl, fun p hp => nomatch hp⟩
  | _, n :: ns, h => by
    cases h with
    | cons h1 h2 =>
      obtain ⟨a, b, c⟩ := reps_pairs h2
      refine ⟨by rw [List.zip_cons_cons, List.map_cons, a], by rw [List.zip_cons_cons, List.map_cons, b], fun p hp => ?_⟩
      rcases List.mem_cons.mp hp with rfl | hp
      · exact h1
      · exact c p hp
theorem reps_of {K : PySem.W.Frag} {F : Hp} : ∀ {qs : List (V × List Int)}, (∀ p ∈ qs, Rep K F p.1 (tupD p.2)) → Reps K F (qs.map (·.1)) ((qs.map (·.2)).map tupD)
  | [], _ => .nil
  | q :: qs, h => .cons (h q List.mem_cons_self) (reps_of fun p hp => h p (List.mem_cons_of_mem _ hp))
theorem sv_sortedT {K : PySem.W.Frag} {c : Ct} : ServesC K c (rSortedN K) sortedTD := by
  intro F H vs ds R Q ex rv h k
  unfold sortedTD at h
  split at h
  · obtain ⟨ns, d, rfl, hd, hn, h⟩ := h
    obtain ⟨v, rfl, r1⟩ := rv.one
    obtain ⟨p, ys, rfl, g1, g2, g3⟩ := r1.lstI
    obtain ⟨z1, z2, z3⟩ := reps_pairs g2
    refine ⟨p, ys.zip ns, d, rfl, by rw [z1]; exact SqL.of (ex.fh _ _ g1), hd, fun q hq => ⟨hn _ (by rw [← z2]; exact List.mem_map.mpr ⟨q, hq, rfl⟩), ?_⟩, fun qs l hp hs hl => ?_⟩
    · obtain ⟨t, xs, e, s1, s2, _⟩ := (z3 q hq).tupI
      have e2 := s2.ints_inv
      subst e2
      exact ⟨t, e, sqT_mono ex.fh s1⟩
    · have hr := reps_of (qs := qs) (K := K) (F := F) fun q hq => z3 q (hp.mem_iff.mp hq)
      have hm : (qs.map (·.2)).Perm ns := by rw [← z2]; exact hp.map _
      have hz : ((qs.map (·.2)).map tupD).length ≤ sizeLine := by
        rw [List.length_map, hm.length_eq, ← List.length_map (f := tupD)]
        exact g3
      obtain ⟨y1, y2⟩ := newLst ex hl hr hz
      refine k _ (h _ hm ?_) _ _ _ y1 y2
      rw [List.pairwise_map]
      exact hs
  · exact h.elim
theorem de_sortedT {X : Cx} {c : Ct} {a : Expr} {ml : DTA} {p pos : Pos} (hm : X.mg "sorted" = none) (ha : DA X c [a] ml) (hg : Gl X "sorted" := by rfl) (he : starEach [a] X.env = (false, eval a X.env) :: starEach [] X.env := by rfl) (hpl : (backTo pos (starEach [] X.env)).any (·.1) = false := by rfl) : DE X c (.Call (.Name "sorted" p) [a] [] pos) (dB sortedTD ml) :=
  de_callB cr_sortedN sv_sortedT hg hm boot_sorted ha (by decide) (by decide) he hpl
end Lay
namespace Lay
open PySem PySem.Spec L2
open PyProof.Rows hiding St
section
variable {X : Cx} {c : Ct} {a b cc dd : Expr} {ta tb tc td : TE} {ma mb mc md : DTE} {pos : Pos}
def tChain3 (r r' r'' : R2) (ta tb tc td : TE) : TE := fun σ H Q => ta σ H fun x H1 => tb σ H1 fun y H2 => r x y H2 fun z H3 => ∃ k, z = .bl k ∧
  (if k = true then tc σ H3 fun w' H4 => r' y w' H4 fun z2 H5 => ∃ k2, z2 = .bl k2 ∧ (if k2 = true then td σ H5 fun w2 H6 => r'' w' w2 H6 Q else Q (.bl false) H5) else Q (.bl false) H3)
theorem pe_chain3 {op op' op'' : CmpOp} {r r' r'' : R2} (ho : OpR X (compareOp op) r) (ho' : OpR X (compareOp op') r') (ho'' : OpR X (compareOp op'') r'') (ha : PE X a ta) (hb : PE X b tb) (hc : PE X cc tc) (hd : PE X dd td)
    (hm : lastMarks [op, op', op''] [b, cc, dd] = false := by with_unfolding_all rfl) : PE X (.Compare a [op, op', op''] [b, cc, dd] pos) (tChain3 r r' r'' ta tb tc td) := by
  refine ⟨fun pins s σ H Q I h => ?_⟩
  refine Compare_chain (thn (ha.run pins s σ H _ I h) fun v s1 ⟨x, H1, I1, r1, q1⟩ => chain_link (thn (hb.run pins s1 σ H1 _ I1 q1) fun u s2 ⟨y, H2, I2, r2, q2⟩ =>
    thn (ho pins s2 σ H2 x y v u _ I2 r1 r2 q2) fun d s3 ⟨z, H3, I3, r3, k, e, q3⟩ => ?_)) hm
  subst e
  cases r3
  refine wpAny_truthy_bool ?_
  cases k with
  | false => exact ite_ff ⟨.bl false, H3, I3, rfl, q3⟩
  | true =>
    refine ite_tt (chain_link (thn (hc.run pins s3 σ H3 _ I3 q3) fun w' s4 ⟨z', H4, I4, r4, q4⟩ => thn (ho' pins s4 σ H4 y z' u w' _ I4 r2 r4 q4) fun d2 s5 ⟨z2, H5, I5, r5, k2, e2, q5⟩ => ?_))
    subst e2
    cases r5
    refine wpAny_truthy_bool ?_
    cases k2 with
    | false => exact ite_ff ⟨.bl false, H5, I5, rfl, q5⟩
    | true => exact ite_tt (chain_last (thn (hd.run pins s5 σ H5 _ I5 q5) fun w2 s6 ⟨z3, H6, I6, r6, q6⟩ => ho'' pins s6 σ H6 z' z3 w' w2 Q I6 r4 r6 q6))
theorem pt_chain3 {op op' op'' : CmpOp} {r r' r'' : R2} (ho : OpR X (compareOp op) r) (ho' : OpR X (compareOp op') r') (ho'' : OpR X (compareOp op'') r'') (ha : PE X a ta) (hb : PE X b tb) (hc : PE X cc tc) (hd : PE X dd td)
    (hm : lastMarks [op, op', op''] [b, cc, dd] = false := by with_unfolding_all rfl) : PT X (.Compare a [op, op', op''] [b, cc, dd] pos) (tTest (tChain3 r r' r'' ta tb tc td)) := by
  refine ⟨fun pins s σ H Q I h => ?_⟩
  refine isTrue_chain (thn (ha.run pins s σ H _ I h) fun v s1 ⟨x, H1, I1, r1, q1⟩ => test_link (thn (hb.run pins s1 σ H1 _ I1 q1) fun u s2 ⟨y, H2, I2, r2, q2⟩ =>
    thn (ho pins s2 σ H2 x y v u _ I2 r1 r2 q2) fun d s3 ⟨z, H3, I3, r3, k, e, q3⟩ => ?_)) hm
  subst e
  cases r3
  refine wpAny_truthy_bool ?_
  cases k with
  | false =>
    obtain ⟨k', e', q'⟩ := q3
    cases e'
    exact ite_ff ⟨H3, I3, q'⟩
  | true =>
    refine ite_tt (test_link (thn (hc.run pins s3 σ H3 _ I3 q3) fun w' s4 ⟨z', H4, I4, r4, q4⟩ => thn (ho' pins s4 σ H4 y z' u w' _ I4 r2 r4 q4) fun d2 s5 ⟨z2, H5, I5, r5, k2, e2, q5⟩ => ?_))
    subst e2
    cases r5
    refine wpAny_truthy_bool ?_
    cases k2 with
    | false =>
      obtain ⟨k', e', q'⟩ := q5
      cases e'
      exact ite_ff ⟨H5, I5, q'⟩
    | true =>
      refine ite_tt (test_last (thn (hd.run pins s5 σ H5 _ I5 q5) fun w2 s6 ⟨z3, H6, I6, r6, q6⟩ => thn (ho'' pins s6 σ H6 z' z3 w' w2 _ I6 r4 r6 q6) fun d3 s7 ⟨z4, H7, I7, r7, k3, e3, q7⟩ => ?_))
      subst e3
      cases r7
      exact wpAny_truthy_bool ⟨H7, I7, q7⟩
def dCh3 (d2 d3 d4 : D2) (ma mb mc md : DTE) (en : En) (Q : D → Prop) : Prop := ma en fun x => mb en fun y => d2 x y fun z => asB z fun b => Cnd b (mc en fun w => d3 y w fun z => asB z fun b => Cnd b (md en fun v => d4 w v Q) (Q (.bool false))) (Q (.bool false))
theorem lift_ch3 {K : PySem.W.Frag} {r2 r3 r4 : R2} {d2 d3 d4 : D2} (sv : Serves K c r2 d2) (sv' : Serves K c r3 d3) (sv'' : Serves K c r4 d4) {σ : St} {H : Hp} {Q : VK} (h : liftE K c (dCh3 d2 d3 d4 ma mb mc md) σ H Q) : tChain3 r2 r3 r4 (liftE K c ma) (liftE K c mb) (liftE K c mc) (liftE K c md) σ H Q := by
  obtain ⟨F, en, R, r, h, k⟩ := h
  refine ⟨F, en, _, r, h, fun d hd v F1 H1 x1 rv => ?_⟩
  refine ⟨F1, en, _, r.grow x1, hd, fun e he u F2 H2 x2 ru => ?_⟩
  refine sv F2 H2 v u d e _ _ x2.self (Rep.mono x2.ff _ _ rv) ru he fun z hz v' F3 H3 x3 rz => ?_
  cases z with
  | bool i =>
    cases rz
    refine ⟨i, rfl, ?_⟩
    cases i with
    | true =>
      refine ⟨F3, en, _, (r.grow (x1.trans x2)).grow x3, hz, fun w hw v4 F4 H4 x4 r4 => ?_⟩
      refine sv' F4 H4 u v4 e w _ _ x4.self (Rep.mono x4.ff _ _ (Rep.mono x3.ff _ _ ru)) r4 hw fun z hz v5 F5 H5 x5 r5 => ?_
      have xx := x1.trans (x2.trans (x3.trans (x4.trans x5)))
      cases z with
      | bool j =>
        cases r5
        refine ⟨j, rfl, ?_⟩
        cases j with
        | true =>
          refine ⟨F5, en, _, r.grow xx, hz, fun w2 hw2 v6 F6 H6 x6 r6 => ?_⟩
          exact sv'' F6 H6 v4 v6 w w2 R Q x6.self (Rep.mono x6.ff _ _ (Rep.mono x5.ff _ _ r4)) r6 hw2 fun z hz v7 F7 H7 x7 r7 => k z hz v7 F7 H7 (xx.trans (x6.trans x7)) r7
        | false => exact k _ hz _ F5 H5 xx (.bl _)
      | _ => exact False.elim hz
    | false => exact k _ hz _ F3 H3 (x1.trans (x2.trans x3)) (.bl _)
  | _ => exact False.elim hz
theorem de_ch3 {op op' op'' : CmpOp} {r2 r3 r4 : R2} {d2 d3 d4 : D2} (ho : OpR X (compareOp op) r2) (ho' : OpR X (compareOp op') r3) (ho'' : OpR X (compareOp op'') r4) (sv : Serves X.K c r2 d2) (sv' : Serves X.K c r3 d3) (sv'' : Serves X.K c r4 d4) (ha : DE X c a ma) (hb : DE X c b mb) (hc : DE X c cc mc) (hd : DE X c dd md)
    (hm : lastMarks [op, op', op''] [b, cc, dd] = false := by with_unfolding_all rfl) : DE X c (.Compare a [op, op', op''] [b, cc, dd] pos) (dCh3 d2 d3 d4 ma mb mc md) :=
  ⟨PE.imp (pe_chain3 ho ho' ho'' ha.run hb.run hc.run hd.run hm) fun _ _ _ h => lift_ch3 sv sv' sv'' h⟩
theorem dt_ch3 {op op' op'' : CmpOp} {r2 r3 r4 : R2} {d2 d3 d4 : D2} (ho : OpR X (compareOp op) r2) (ho' : OpR X (compareOp op') r3) (ho'' : OpR X (compareOp op'') r4) (sv : Serves X.K c r2 d2) (sv' : Serves X.K c r3 d3) (sv'' : Serves X.K c r4 d4) (ha : DE X c a ma) (hb : DE X c b mb) (hc : DE X c cc mc) (hd : DE X c dd md)
    (hm : lastMarks [op, op', op''] [b, cc, dd] = false := by with_unfolding_all rfl) : DT X c (.Compare a [op, op', op''] [b, cc, dd] pos) (dT (dCh3 d2 d3 d4 ma mb mc md)) :=
  ⟨PT.imp (pt_chain3 ho ho' ho'' ha.run hb.run hc.run hd.run hm) fun _ _ _ h => lift_ch3 sv sv' sv'' (lift_test h)⟩
end
end Lay
namespace Lay
open PySem PySem.Spec L2
open PyProof.Rows hiding St
def rInDict (neg : Bool) : R2 := fun x y H Q => ∃ a o, y = .ref a ∧ DGet H a x o ∧ Q (.bl (if neg then !o.isSome else o.isSome)) H
section
variable {X : Cx}
theorem op_inDict (hu : X.A.units + 64 < cLine) : OpR X (compareOp .In) (rInDict false) := by
  intro pins s σ H x y v u Q I rx ry h
  obtain ⟨a, o, rfl, g, q⟩ := h
  cases ry
  exact d_in (Nat.lt_of_le_of_lt (Nat.add_le_add_left (by decide) _) hu) I g rx fun s' I' => ⟨.bl _, H, I', rfl, q⟩
theorem op_notInDict (hu : X.A.units + 64 < cLine) : OpR X (compareOp .NotIn) (rInDict true) := by
  intro pins s σ H x y v u Q I rx ry h
  obtain ⟨a, o, rfl, g, q⟩ := h
  cases ry
  exact d_notIn (Nat.lt_of_le_of_lt (Nat.add_le_add_left (by decide) _) hu) I g rx fun s' I' => ⟨.bl _, H, I', rfl, q⟩
end
def hasK (kvs : List (Key × D)) (k : Key) : Bool := kvs.any fun kv => decide (kv.1 = k)
def keyIn (kvs : List (Key × D)) (d : D) (Q : Bool → Prop) : Prop := match d with
  | .int n => Q (hasK kvs (.inl n))
  | _ => False
/-- k in x, x a dict of the def's own -/
def dInO (neg : Bool) (i : Nat) (m : DTE) (en : En) (Q : D → Prop) : Prop := m en fun d => onDic (gt en i) fun kvs => keyIn kvs d fun b => Q (.bool (if neg then !b else b))
theorem KReps.has {K : PySem.W.Frag} {F : Hp} {k : Key} : ∀ {vs : List (Key × V)} {ds : List (Key × D)}, KReps K F vs ds → (vs.any fun kv => decide (kv.1 = k)) = hasK ds k
  | _, _, .nil => rfl
  | _, _, .cons r t => by
    unfold hasK
    rw [List.any_cons, List.any_cons, t.has]
    rfl
theorem lift_inO {K : PySem.W.Frag} {c : Ct} {neg : Bool} {i : Nat} {ma : DTE} {σ : St} {H : Hp} {Q : VK} (h : liftE K c (dInO neg i ma) σ H Q) : tOp (rInDict neg) (liftE K c ma) (tVar i) σ H Q := by
  obtain ⟨F, en, R, r, h, k⟩ := h
  refine ⟨F, en, _, r, h, fun d hd v F1 H1 x1 rv => ?_⟩
  unfold onDic at hd
  split at hd
  · rename_i kvs hg
    have r1 := r.grow x1
    obtain ⟨ov, e1, a, vs, e2, e3, e4, e5⟩ := r1.sl i _ (gt_get hg (fun z => nomatch z))
    subst e2
    unfold keyIn at hd
    split at hd
    · rename_i n
      cases rv
      refine ⟨.ref a, e1, a, _, rfl, DGet.k (k := .inl n) e3, ?_⟩
      rw [← valV_any, e4.has]
      exact k _ hd _ F1 H1 x1 (.bl _)
    · exact hd.elim
  · exact hd.elim
section
variable {X : Cx} {c : Ct} {a : Expr} {ma : DTE} {pos : Pos}
theorem de_inO (hu : X.A.units + 64 < cLine) (i : Nat) {x : Str} {px : Pos} (ha : DE X c a ma) (hN : X.N[i]? = some x := by rfl) (hv : Vis X.env.scope x := by first | exact Or.inl rfl | exact Or.inr (Or.inl rfl) | exact Or.inr (Or.inr rfl)) (hd : (x == ("__debug__" : Str)) = false := by decide) (hcd : (x == ("__classdict__" : Str)) = false := by decide) (hm : behindInMarks .In (.Name x px) = false := by rfl) :
    DE X c (.Compare a [.In] [.Name x px] pos) (dInO false i ma) := ⟨PE.imp (pe_cmpR (op_inDict hu) ha.run (pe_var hN hv hd hcd) hm) fun _ _ _ h => lift_inO h⟩
theorem dt_inO (hu : X.A.units + 64 < cLine) (i : Nat) {x : Str} {px : Pos} (ha : DE X c a ma) (hN : X.N[i]? = some x := by rfl) (hv : Vis X.env.scope x := by first | exact Or.inl rfl | exact Or.inr (Or.inl rfl) | exact Or.inr (Or.inr rfl)) (hd : (x == ("__debug__" : Str)) = false := by decide) (hcd : (x == ("__classdict__" : Str)) = false := by decide) (hm : behindInMarks .In (.Name x px) = false := by rfl) :
    DT X c (.Compare a [.In] [.Name x px] pos) (dT (dInO false i ma)) := ⟨PT.imp (pt_cmpR (op_inDict hu) ha.run (pe_var hN hv hd hcd) hm) fun _ _ _ h => lift_inO (lift_test h)⟩
theorem de_notInO (hu : X.A.units + 64 < cLine) (i : Nat) {x : Str} {px : Pos} (ha : DE X c a ma) (hN : X.N[i]? = some x := by rfl) (hv : Vis X.env.scope x := by first | exact Or.inl rfl | exact Or.inr (Or.inl rfl) | exact Or.inr (Or.inr rfl)) (hd : (x == ("__debug__" : Str)) = false := by decide) (hcd : (x == ("__classdict__" : Str)) = false := by decide) (hm : behindInMarks .NotIn (.Name x px) = false := by rfl) :
    DE X c (.Compare a [.NotIn] [.Name x px] pos) (dInO true i ma) := ⟨PE.imp (pe_cmpR (op_notInDict hu) ha.run (pe_var hN hv hd hcd) hm) fun _ _ _ h => lift_inO h⟩
theorem dt_notInO (hu : X.A.units + 64 < cLine) (i : Nat) {x : Str} {px : Pos} (ha : DE X c a ma) (hN : X.N[i]? = some x := by rfl) (hv : Vis X.env.scope x := by first | exact Or.inl rfl | exact Or.inr (Or.inl rfl) | exact Or.inr (Or.inr rfl)) (hd : (x == ("__debug__" : Str)) = false := by decide) (hcd : (x == ("__classdict__" : Str)) = false := by decide) (hm : behindInMarks .NotIn (.Name x px) = false := by rfl) :
    DT X c (.Compare a [.NotIn] [.Name x px] pos) (dT (dInO true i ma)) := ⟨PT.imp (pt_cmpR (op_notInDict hu) ha.run (pe_var hN hv hd hcd) hm) fun _ _ _ h => lift_inO (lift_test h)⟩
end
def putD (kvs : List (Key × D)) (k : Key) (d : D) : List (Key × D) := if hasK kvs k = true then kvs.map (fun kv => if kv.1 = k then (kv.1, d) else kv) else kvs ++ [(k, d)]
theorem KReps.append {K : PySem.W.Frag} {F : Hp} : ∀ {vs us : List (Key × V)} {ds es : List (Key × D)}, KReps K F vs ds → KReps K F us es → KReps K F (vs ++ us) (ds ++ es)
  | _, _, _, _, .nil, h => h
  | _, _, _, _, .cons r t, h => .cons r (t.append h)
theorem KReps.turned {K : PySem.W.Frag} {F : Hp} {k : Key} {v : V} {d : D} (rv : Rep K F v d) : ∀ {vs : List (Key × V)} {ds : List (Key × D)}, KReps K F vs ds → KReps K F (vs.map fun kv => if kv.1 = k then (kv.1, v) else kv) (ds.map fun kv => if kv.1 = k then (kv.1, d) else kv)
  | _, _, .nil => .nil
  | _, _, .cons (k := j) r t => by
    rw [List.map_cons, List.map_cons]
    by_cases z : j = k
    · rw [if_pos z, if_pos z]
      exact .cons rv (t.turned rv)
    · rw [if_neg z, if_neg z]
      exact .cons r (t.turned rv)
theorem KReps.put {K : PySem.W.Frag} {F : Hp} {k : Key} {v : V} {d : D} {vs : List (Key × V)} {ds : List (Key × D)} (h : KReps K F vs ds) (rv : Rep K F v d) : KReps K F (putK vs k v) (putD ds k d) := by
  unfold putK putD
  rw [h.has]
  split
  · exact h.turned rv
  · exact h.append (.cons rv .nil)
theorem hasK_put (kvs : List (Key × D)) (k j : Key) (d : D) : hasK (putD kvs k d) j = (hasK kvs j || decide (k = j)) := by
  unfold putD
  split
  · rename_i hk
    have e : hasK (kvs.map fun kv => if kv.1 = k then (kv.1, d) else kv) j = hasK kvs j := by
      unfold hasK
      rw [List.any_map]
      congr 1
      funext kv
      by_cases z : kv.1 = k
      · simp [z]
      · simp [z]
    rw [e]
    by_cases z : k = j
    · subst z
      rw [hk]
      rfl
    · rw [decide_eq_false z, Bool.or_false]
  · unfold hasK
    rw [List.any_append]
    simp
theorem putD_len (kvs : List (Key × D)) (k : Key) (d : D) : (putD kvs k d).length ≤ kvs.length + 1 := by
  unfold putD
  split
  · rw [List.length_map]; omega
  · rw [List.length_append]; simp
def mergeD (kvs : List (Key × D)) (more : List (Int × D)) : List (Key × D) := more.foldl (fun acc p => putD acc (.inl p.1) p.2) kvs
theorem hasK_merge (j : Int) : ∀ (more : List (Int × D)) (kvs : List (Key × D)), hasK (mergeD kvs more) (.inl j) = (hasK kvs (.inl j) || decide (j ∈ more.map (·.1)))
  | [], kvs => by simp [mergeD]
  | p :: more, kvs => by
    show hasK (mergeD (putD kvs (.inl p.1) p.2) more) (.inl j) = _
    rw [hasK_merge j more, hasK_put, List.map_cons]
    by_cases z : j = p.1
    · subst z; simp
    · have z1 : ¬ (Sum.inl p.1 : Key) = Sum.inl j := fun e => z (Sum.inl.inj e).symm
      rw [decide_eq_false z1, Bool.or_false]
      congr 1
      exact decide_eq_decide.mpr ⟨fun m => List.mem_cons_of_mem _ m, fun m => (List.mem_cons.mp m).resolve_left z⟩
theorem mergeD_len : ∀ (more : List (Int × D)) (kvs : List (Key × D)), (mergeD kvs more).length ≤ kvs.length + more.length
  | [], kvs => Nat.le_refl _
  | p :: more, kvs => by
    have h1 := mergeD_len more (putD kvs (.inl p.1) p.2)
    have h2 := putD_len kvs (.inl p.1) p.2
    show (mergeD (putD kvs (.inl p.1) p.2) more).length ≤ _
    rw [List.length_cons]
    omega
def pairD2 (p : Int × D) : D := .tuple [.int p.1, p.2]
theorem pairs_rep {K : PySem.W.Frag} {F H : Hp} (hF : ∀ a o, F a = some o → H a = some o) : ∀ {ys : List V} {ps : List (Int × D)}, Reps K F ys (ps.map pairD2) → ∃ (as : List Addr) (kvs : List (Key × V)), ys = as.map V.ref ∧ Paired (fun p kv => SqT K H p [kV kv.1, kv.2]) as kvs ∧
    ∀ vs ds, KReps K F vs ds → KReps K F (mergeK vs kvs) (mergeD ds ps)
  | ys, [], h => by
    cases h
    exact ⟨[], [], rfl, .nil, fun vs ds h => h⟩
  | ys, p :: ps, h => by
    cases h with
    | cons h1 h2 =>
      obtain ⟨as, kvs, e1, e2, e3⟩ := pairs_rep hF h2
      obtain ⟨t, xs, e, s1, s2, _⟩ := h1.tupI
      obtain ⟨v, u, rfl, q1, q2⟩ := s2.two
      cases q1
      subst e
      refine ⟨t :: as, (.inl p.1, u) :: kvs, by rw [e1]; rfl, .cons (sqT_mono hF s1) e2, fun vs ds h => ?_⟩
      show KReps K F (mergeK (putK vs (.inl p.1) u) kvs) (mergeD (putD ds (.inl p.1) p.2) ps)
      exact e3 _ _ (h.put q2)
def pairsD (ds : List D) (Q : List (Int × D) → Prop) : Prop := match ds with
  | [.list es] => ∃ ps : List (Int × D), es = ps.map pairD2 ∧ Q ps
  | _ => False
/-- x = dict(pairs) : the def's own dict -/
def dDictO (i : Nat) (ml : DTA) (R : DEnds) (en : En) : Prop := ml en fun ds => pairsD ds fun ps => ∀ kvs : List (Key × D), (∀ j : Int, hasK kvs (.inl j) = decide (j ∈ ps.map (·.1))) → R.nx (en.set i (.dic kvs))
theorem sdictO {X : Cx} {c : Ct} {a : Expr} {ml : DTA} {pos : Pos} (i : Nat) {x : Str} {p pos' spos : Pos} (hc : X.calm = true) (hm : X.mg "dict" = none) (hN : X.N.Nodup) (ha : DA X c [a] ml) (hg : Gl X "dict" := by rfl) (hi : X.N[i]? = some x := by rfl) (hx : Loc X.env.scope x := by first | exact Or.inl rfl | exact Or.inr rfl)
    (hs : swapsWith (.Call (.Name "dict" p) [a] [] pos) (some (.Name x pos')) spos.line X.env = pure false := by rfl)
    (he : starEach [a] X.env = (false, eval a X.env) :: starEach [] X.env := by rfl) (hpl : (backTo pos (starEach [] X.env)).any (·.1) = false := by rfl) (hf : X.fn x = true ∨ X.env.scope.names.lookup x = some .local := by first | exact .inl rfl | exact .inr rfl | assumption) :
    DS X c (.Assign [.Name x pos'] (.Call (.Name "dict" p) [a] [] pos) spos) (dDictO i ml) := by
  refine ⟨PS.imp (ps_set (i := i) hN hi hx (pe_callTy (call_dictP hc) hg hm PyProof.Rows.boot_dict ha.run (by decide) (by decide) he hpl) hs hf) fun D σ H h => ?_⟩
  obtain ⟨F, en, R, r, h, k⟩ := h
  refine ⟨F, en, _, r, h, fun ds hd vs F' H' x rv _ => ?_⟩
  unfold pairsD at hd
  split at hd
  · obtain ⟨ps, rfl, hd⟩ := hd
    obtain ⟨v, rfl, r1⟩ := rv.one
    obtain ⟨l, ys, rfl, g1, g2, g3⟩ := r1.lstI
    obtain ⟨as, kvs, e1, e2, e3⟩ := pairs_rep x.fh g2
    subst e1
    refine ⟨l, as, kvs, rfl, SqL.of (x.fh _ _ g1), e2, fun q hq => ?_⟩
    have hk := e3 [] [] .nil
    refine k.nx _ _ F' _ (hd (mergeD [] ps) fun j => by rw [hasK_merge]; rfl) ((r.grow x).setO hq ⟨q, mergeK [] kvs, rfl, upd_same, hk, ?_⟩) x.ff
    have := mergeD_len ps []
    rw [List.length_map] at g3
    rw [List.length_nil, Nat.zero_add] at this
    exact Nat.le_trans this g3
  · exact hd.elim
end Lay
namespace Lay
open PySem PySem.Spec L2
open PyProof.Rows hiding St
section
variable {P : Program} {w : World} {A : Around} {E : Value → Shared → Prop} {s : Shared} {l : Addr} {vs : Array Value}
theorem iter_tupA {Q : Value → Shared → Prop} (hl : s.heap.IsTuple l vs)
    (k : ∀ s₂ : Shared, s₂ = { s with heap := s.heap.push { cls := .type "tuple_iterator", data := .fields #[.ref l, .int 0 0] } } →
      (s₂.heap.IsTupleIter s.heap.objs.size l 0 ∧ s₂.heap.IsTuple l vs) → (∀ b ∈ [s.heap.objs.size, l], b < s₂.heap.objs.size) → l ≠ s.heap.objs.size → Q (.ref s.heap.objs.size) s₂) :
    wpAny (model P w) A (pyIter (.ref l)) Q E s := by
  have lt : l < s.heap.objs.size := by
    obtain ⟨_, e, _⟩ := hl
    exact Heap.lt_size e
  refine wpAny_pyIter_tuple hl (k _ rfl ⟨⟨_, Heap.get?_push_size _ rfl, rfl, rfl⟩, hl.push _⟩ (fun b m => ?_) (Nat.ne_of_lt lt))
  show b < (s.heap.push _).objs.size
  rw [Heap.size_push]
  rcases List.mem_cons.mp m with rfl | m
  · exact Nat.lt_succ_self _
  · rw [List.mem_singleton.mp m]
    exact Nat.lt_succ_of_lt lt
theorem max_tup3 {Q : Value → Shared → Prop} {a b c : Int} {ta tb tc : Tok} (hA : A.handled = none) (hl : s.heap.IsTuple l #[.int a ta, .int b tb, .int c tc])
    (k : ∀ g tk m u, (∀ d o, s.heap.get? d = some o → g.get? d = some o) → m = max (max a b) c → Q (.int m u) { s with heap := g, toks := tk }) :
    wpAny (model P w) A (call (.builtin "max") [.ref l]) Q E s := by
  refine call_max_walk (iter_tupA hl fun s₂ e st lt ne => ?_)
  subst e
  refine ⟨_, _, _, _, _, _, _, rfl, Walks.tuple (A := A.in1) hA _ l ne #[.int a ta, .int b tb, .int c tc], st, lt, by simp, Flt.cmpOf_gt #[.int a ta, .int b tb, .int c tc] (by simp [Flt.NumV.int]), fun v g tk hP kk => ?_⟩
  have ab : Flt.ltV (.int a ta) (.int b tb) = decide (a < b) := rfl
  have ac : Flt.ltV (.int a ta) (.int c tc) = decide (a < c) := rfl
  have bc : Flt.ltV (.int b tb) (.int c tc) = decide (b < c) := rfl
  have hv : ∃ m u, v = .int m u ∧ m = max (max a b) c := by
    by_cases h1 : a < b
    · by_cases h2 : b < c <;> simp [argBest, ab, ac, bc, h1, h2] at hP <;> subst hP <;> exact ⟨_, _, rfl, by omega⟩
    · by_cases h2 : a < c <;> simp [argBest, ab, ac, bc, h1, h2] at hP <;> subst hP <;> exact ⟨_, _, rfl, by omega⟩
  obtain ⟨m, u, rfl, hm⟩ := hv
  refine k g tk m u (fun d o e => kk d o (fun m => ?_) (Heap.get?_push_of_some _ e)) hm
  exact Nat.ne_of_lt (Heap.lt_size e) (List.mem_singleton.mp m)
theorem min_tup3 {Q : Value → Shared → Prop} {a b c : Int} {ta tb tc : Tok} (hA : A.handled = none) (hl : s.heap.IsTuple l #[.int a ta, .int b tb, .int c tc])
    (k : ∀ g tk m u, (∀ d o, s.heap.get? d = some o → g.get? d = some o) → m = min (min a b) c → Q (.int m u) { s with heap := g, toks := tk }) :
    wpAny (model P w) A (call (.builtin "min") [.ref l]) Q E s := by
  refine call_min_walk (iter_tupA hl fun s₂ e st lt ne => ?_)
  subst e
  refine ⟨_, _, _, _, _, _, _, rfl, Walks.tuple (A := A.in1) hA _ l ne #[.int a ta, .int b tb, .int c tc], st, lt, by simp, Flt.cmpOf_lt #[.int a ta, .int b tb, .int c tc] (by simp [Flt.NumV.int]), fun v g tk hP kk => ?_⟩
  have ba : Flt.ltV (.int b tb) (.int a ta) = decide (b < a) := rfl
  have ca : Flt.ltV (.int c tc) (.int a ta) = decide (c < a) := rfl
  have cb : Flt.ltV (.int c tc) (.int b tb) = decide (c < b) := rfl
  have hv : ∃ m u, v = .int m u ∧ m = min (min a b) c := by
    by_cases h1 : b < a
    · by_cases h2 : c < b <;> simp [argBest, ba, ca, cb, h1, h2] at hP <;> subst hP <;> exact ⟨_, _, rfl, by omega⟩
    · by_cases h2 : c < a <;> simp [argBest, ba, ca, cb, h1, h2] at hP <;> subst hP <;> exact ⟨_, _, rfl, by omega⟩
  obtain ⟨m, u, rfl, hm⟩ := hv
  refine k g tk m u (fun d o e => kk d o (fun m => ?_) (Heap.get?_push_of_some _ e)) hm
  exact Nat.ne_of_lt (Heap.lt_size e) (List.mem_singleton.mp m)
end
def rBest3 (K : PySem.W.Frag) (f : Int → Int → Int → Int) : List V → Hp → VK → Prop := fun vs H Q => ∃ (p : Addr) (a b c : Int), vs = [.ref p] ∧ SqT K H p [.int a, .int b, .int c] ∧ Q (.int (f a b c)) H
theorem three_vals {vs : List Value} {a b c : Int} (r : Vals [.int a, .int b, .int c] vs) : ∃ ta tb tc, vs = [.int a ta, .int b tb, .int c tc] := by
  obtain ⟨u1, u2, u3, rfl, ⟨ta, rfl⟩, ⟨tb, rfl⟩, ⟨tc, rfl⟩⟩ := vals3 r
  exact ⟨_, _, _, rfl⟩
theorem cr_max3 {X : Cx} (hc : X.calm = true) : CallR X (.builtin "max") (rBest3 X.K fun a b c => max (max a b) c) := by
  intro pins s σ H vs us Q I r h
  obtain ⟨p, a, b, c, rfl, hs, q⟩ := h
  obtain ⟨its, rv, hl, _⟩ := I.tuple hs
  rw [Vals.ref1 r]
  obtain ⟨ta, tb, tc, rfl⟩ := three_vals rv
  refine max_tup3 (I.ok.hd hc) hl fun g tk m u k hm => ⟨.int m, H, I.kept k, ⟨u, rfl⟩, by subst hm; exact q⟩
theorem cr_min3 {X : Cx} (hc : X.calm = true) : CallR X (.builtin "min") (rBest3 X.K fun a b c => min (min a b) c) := by
  intro pins s σ H vs us Q I r h
  obtain ⟨p, a, b, c, rfl, hs, q⟩ := h
  obtain ⟨its, rv, hl, _⟩ := I.tuple hs
  rw [Vals.ref1 r]
  obtain ⟨ta, tb, tc, rfl⟩ := three_vals rv
  refine min_tup3 (I.ok.hd hc) hl fun g tk m u k hm => ⟨.int m, H, I.kept k, ⟨u, rfl⟩, by subst hm; exact q⟩
def best3D (f : Int → Int → Int → Int) : DC := fun ds Q => match ds with | [.tuple [.int a, .int b, .int c]] => Q (.int (f a b c)) | _ => False
def maxD : DC := best3D fun a b c => max (max a b) c
def minD : DC := best3D fun a b c => min (min a b) c
theorem sv_best3 {K : PySem.W.Frag} {c : Ct} {f : Int → Int → Int → Int} : ServesC K c (rBest3 K f) (best3D f) := by
  intro F H vs ds R Q ex rv h k
  unfold best3D at h
  split at h
  · obtain ⟨v, rfl, r1⟩ := rv.one
    obtain ⟨p, ys, e, g1, g2, g3⟩ := r1.tupI
    subst e
    obtain ⟨x, y, z, rfl, q1, q2, q3⟩ := g2.three
    cases q1; cases q2; cases q3
    exact ⟨p, _, _, _, rfl, sqT_mono ex.fh g1, k _ h _ F H ex (.int _)⟩
  · exact h.elim
section
variable {X : Cx} {c : Ct} {a : Expr} {ml : DTA} {pos : Pos}
theorem de_max1 {p : Pos} (hc : X.calm = true) (hg : Gl X "max") (hm : X.mg "max" = none) (ha : DA X c [a] ml) (he : starEach [a] X.env = (false, eval a X.env) :: starEach [] X.env := by rfl) (hpl : (backTo pos (starEach [] X.env)).any (·.1) = false := by rfl) : DE X c (.Call (.Name "max" p) [a] [] pos) (dB maxD ml) :=
  de_callB (cr_max3 hc) sv_best3 hg hm boot_max ha (by decide) (by decide) he hpl
theorem de_min1 {p : Pos} (hc : X.calm = true) (hg : Gl X "min") (hm : X.mg "min" = none) (ha : DA X c [a] ml) (he : starEach [a] X.env = (false, eval a X.env) :: starEach [] X.env := by rfl) (hpl : (backTo pos (starEach [] X.env)).any (·.1) = false := by rfl) : DE X c (.Call (.Name "min" p) [a] [] pos) (dB minD ml) :=
  de_callB (cr_min3 hc) sv_best3 hg hm boot_min ha (by decide) (by decide) he hpl
end
end Lay
namespace Lay
open PySem PySem.Spec L2
open PyProof.Rows hiding St
/-- x = {} -/
def dNewO (i : Nat) (R : DEnds) (en : En) : Prop := R.nx (en.set i (.dic []))
theorem snewO {X : Cx} {c : Ct} {pos : Pos} (i : Nat) {x : Str} {pos' spos : Pos} (hN : X.N.Nodup) (hi : X.N[i]? = some x := by rfl) (hx : Loc X.env.scope x := by first | exact Or.inl rfl | exact Or.inr rfl)
    (hs : swapsWith (.Dict [] [] pos) (some (.Name x pos')) spos.line X.env = pure false := by rfl) (hf : X.fn x = true ∨ X.env.scope.names.lookup x = some .local := by first | exact .inl rfl | exact .inr rfl | assumption) :
    DS X c (.Assign [.Name x pos'] (.Dict [] [] pos) spos) (dNewO i) := by
  refine ⟨PS.imp (ps_set (i := i) hN hi hx pe_dnewK hs hf) fun D σ H h => ?_⟩
  obtain ⟨F, en, R, r, h, k⟩ := h
  exact fun p hp => k.nx _ _ F _ h (r.setO hp ⟨p, [], rfl, upd_same, .nil, Nat.zero_le _⟩) fun _ _ e => e
theorem KReps.keys {K : PySem.W.Frag} {F : Hp} : ∀ {vs : List (Key × V)} {ds : List (Key × D)}, KReps K F vs ds → vs.map (·.1) = ds.map (·.1)
  | _, _, .nil => rfl
  | _, _, .cons r t => by rw [List.map_cons, List.map_cons, t.keys]
theorem KReps.len {K : PySem.W.Frag} {F : Hp} {vs : List (Key × V)} {ds : List (Key × D)} (h : KReps K F vs ds) : vs.length = ds.length := by
  have e := congrArg List.length h.keys
  rw [List.length_map, List.length_map] at e
  exact e
def putKD (d : D) (kvs : List (Key × D)) (v : D) (Q : List (Key × D) → Prop) : Prop := match d with
  | .int n => kvs.length < 4096 ∧ Q (putD kvs (.inl n) v)
  | _ => False
theorem putKD_int {n : Int} {kvs : List (Key × D)} {v : D} {Q : List (Key × D) → Prop} : putKD (.int n) kvs v Q = (kvs.length < 4096 ∧ Q (putD kvs (.inl n) v)) := rfl
/-- x[k] = v -/
def dPutO (i : Nat) (mk mv : DTE) (R : DEnds) (en : En) : Prop := mv en fun v => onDic (gt en i) fun kvs => mk en fun k => putKD k kvs v fun kvs => R.nx (en.set i (.dic kvs))
theorem sputO {X : Cx} {c : Ct} {e b : Expr} {mk mv : DTE} {pos : Pos} (hu : X.A.units + 64 < cLine) (i : Nat) {x : Str} {px p2 : Pos} (hk : DE X c b mk) (hv : DE X c e mv) (hN : X.N[i]? = some x := by rfl) (hvis : Vis X.env.scope x := by first | exact Or.inl rfl | exact Or.inr (Or.inl rfl) | exact Or.inr (Or.inr rfl)) (hd : (x == ("__debug__" : Str)) = false := by decide) (hcd : (x == ("__classdict__" : Str)) = false := by decide)
    (hs : swapsWith e (some (.Subscript (.Name x px) b p2)) pos.line X.env = pure false := by rfl) :
    DS X c (.Assign [.Subscript (.Name x px) b p2] e pos) (dPutO i mk mv) := by
  refine ⟨PS.imp (ps_dput (Nat.lt_of_le_of_lt (Nat.add_le_add_left (by decide) _) hu) (pe_var hN hvis hd hcd) hk.run hv.run hs) fun D σ H h => ?_⟩
  obtain ⟨F, en, R, r, h, k⟩ := h
  refine ⟨F, en, _, r, h, fun d hd v F1 H1 x1 rv => ?_⟩
  unfold onDic at hd
  split at hd
  · rename_i kvs hg
    have hen := gt_get hg (fun z => nomatch z)
    have g := r.grow x1
    obtain ⟨ov, e1, p, vs, e2, e3, e4, e5⟩ := g.sl i _ hen
    subst e2
    refine ⟨_, e1, F1, en, _, g, hd, fun kd hk kv F2 H2 x2 rk => ?_⟩
    cases kd with
    | int n =>
      cases rk
      obtain ⟨hl, hk⟩ := hk
      have g2 := g.grow x2
      have ha : ownAt σ en i p := ⟨e1, _, hen, rfl⟩
      obtain ⟨ov', e1', p', vs', e2', e3', e4', e5'⟩ := g2.sl i _ hen
      subst e2'
      rw [e1] at e1'
      cases e1'
      have rv' := Rep.mono x2.ff _ _ rv
      have hn : vs'.length < sizeLine := by
        rw [e4'.len]
        exact Nat.lt_of_lt_of_le hl (by decide)
      refine ⟨p, _, rfl, DPut.k (k := .inl n) e3' hn, ?_⟩
      refine k.nx _ _ F2 _ hk (g2.turn ha ⟨p, _, rfl, upd_same, e4'.put rv', ?_⟩) (fun b o q => x2.ff _ _ (x1.ff _ _ q))
      have := putD_len kvs (.inl n) d
      have : 4097 ≤ sizeLine := by decide
      omega
    | _ => exact False.elim hk
  · exact hd.elim
/-- sorted(x) -/
def dSortedO (i : Nat) (en : En) (Q : D → Prop) : Prop := onDic (gt en i) fun kvs => ∃ ks : List Int, kvs.map (·.1) = ks.map Sum.inl ∧ ks.length < 64 ∧ ∀ ys : List Int, ys.Perm ks → ys.Pairwise (· ≤ ·) → Q (.list (ys.map .int))
theorem de_sortedO {X : Cx} {c : Ct} {pos : Pos} (i : Nat) {x : Str} {p px : Pos} (hc : X.calm = true) (hm : X.mg "sorted" = none) (hg : Gl X "sorted" := by rfl) (hN : X.N[i]? = some x := by rfl) (hv : Vis X.env.scope x := by first | exact Or.inl rfl | exact Or.inr (Or.inl rfl) | exact Or.inr (Or.inr rfl)) (hd : (x == ("__debug__" : Str)) = false := by decide) (hcd : (x == ("__classdict__" : Str)) = false := by decide)
    (he : starEach [.Name x px] X.env = (false, eval (.Name x px) X.env) :: starEach [] X.env := by rfl) (hpl : (backTo pos (starEach [] X.env)).any (·.1) = false := by rfl) : DE X c (.Call (.Name "sorted" p) [.Name x px] [] pos) (dSortedO i) := by
  refine ⟨PE.imp (pe_callB (call_sortedDI hc) hg hm boot_sorted (pa_cons (pe_var hN hv hd hcd) pa_nil he) (by decide) (by decide) he hpl) fun σ H Q h => ?_⟩
  obtain ⟨F, en, R, r, h, k⟩ := h
  unfold dSortedO onDic at h
  split at h
  · rename_i kvs hg
    obtain ⟨ov, e1, p, vs, e2, e3, e4, e5⟩ := r.sl i _ (gt_get hg (fun z => nomatch z))
    subst e2
    obtain ⟨ks, hk, h64, hd⟩ := h
    refine ⟨_, e1, p, vs, ks, rfl, .inl e3, e4.keys.trans hk, h64, fun ys l hp hw hl => ?_⟩
    have hr : Reps X.K F (ys.map V.int) (ys.map .int) := by
      clear hp hw
      induction ys with
      | nil => exact .nil
      | cons m ms ih => exact .cons (.int _) ih
    have hz : (ys.map PyData.int).length ≤ sizeLine := by
      rw [List.length_map, hp.length_eq]
      have : 64 ≤ sizeLine := by decide
      omega
    obtain ⟨y1, y2⟩ := newLst r.ext.self hl hr hz
    exact k _ (hd ys hp hw) _ _ _ y1 y2
  · exact h.elim
end Lay
namespace Lay
open PySem PySem.Spec L2
open PyProof.Rows hiding St
def par3O (i j l : Nat) (ds : List D) (en : En) (Q : En → Prop) : Prop := match ds with | [d, e] => Q (((en.set i (.own [])).set j (.val d)).set l (.val e)) | _ => False
theorem par3O_two {i j l : Nat} {d e : D} {en : En} {Q : En → Prop} : par3O i j l [d, e] en Q = Q (((en.set i (.own [])).set j (.val d)).set l (.val e)) := rfl
def dPar3O (i j l : Nat) (ml : DTA) (R : DEnds) (en : En) : Prop := ml en fun ds => par3O i j l ds en R.nx
def parO2 (i j : Nat) (ds : List D) (en : En) (Q : En → Prop) : Prop := match ds with | [d] => Q ((en.set i (.val d)).set j (.own [])) | _ => False
theorem parO2_one {i j : Nat} {d : D} {en : En} {Q : En → Prop} : parO2 i j [d] en Q = Q ((en.set i (.val d)).set j (.own [])) := rfl
def dParO2 (i j : Nat) (ml : DTA) (R : DEnds) (en : En) : Prop := ml en fun ds => parO2 i j ds en R.nx
section
variable {X : Cx} {c : Ct} {a b d : Expr} {ml : DTA} {pos : Pos}
theorem spar3O (i j l : Nat) {x y z : Str} {px py pz pt lp : Pos} {kt k2 pt2} (hN : X.N.Nodup) (ha : DA X c [b, d] ml) (hc : X.calm = true := by rfl) (hi : X.N[i]? = some x := by rfl) (hj : X.N[j]? = some y := by rfl) (hl : X.N[l]? = some z := by rfl) (hij : i ≠ j := by decide) (hil : i ≠ l := by decide) (hjl : j ≠ l := by decide)
    (hx : X.env.scope.names.lookup x = some .local := by rfl) (hy : X.env.scope.names.lookup y = some .local := by rfl) (hz : X.env.scope.names.lookup z = some .local := by rfl)
    (hw : swappedStores [.Tuple [.Name x px, .Name y py, .Name z pz] kt pt] (.Tuple [.List [] lp, b, d] k2 pt2) X.env = pure (some [x, y, z]) := by rfl)
    (hs : swapsWithSole [.Tuple [.Name x px, .Name y py, .Name z pz] kt pt] (.Tuple [.List [] lp, b, d] k2 pt2) pos.line X.env = pure false := by rfl)
    (he : starEach [.List [] lp, b, d] X.env = (false, eval (.List [] lp) X.env) :: starEach [b, d] X.env := by rfl) :
    DS X c (.Assign [.Tuple [.Name x px, .Name y py, .Name z pz] kt pt] (.Tuple [.List [] lp, b, d] k2 pt2) pos) (dPar3O i j l ml) := by
  refine ⟨PS.imp (ps_par3 hc hN hi hj hl hij hil hjl hx hy hz (pa_cons (pe_lst pa_nil) ha.run he) hw hs) fun D σ H h => ?_⟩
  obtain ⟨F, en, R, r, h, k⟩ := h
  refine ⟨Nat.zero_le _, fun p hp => ?_⟩
  have fp : F p = none := by
    cases q : F p with
    | none => rfl
    | some u => rw [r.fh _ _ q] at hp; cases hp
  have x1 : Ext c.wo F H F (upd H p (.lst [])) := r.ext.self.poke hp fp (r.ext.wne hp)
  refine ⟨F, en, _, r.grow x1, h, fun ds hd vs F' H' x rv hn => ?_⟩
  unfold par3O at hd
  split at hd
  · obtain ⟨v, u, rfl, r1, r2⟩ := rv.two
    have r0 : SR X.K c F (σ.set i (some (.ref p))) (upd H p (.lst [])) (en.set i (.own [])) := r.setO hp ⟨p, [], rfl, upd_same, .nil, Nat.zero_le _⟩
    exact ⟨.ref p, v, u, rfl, k.nx _ _ F' H' hd (((r0.grow x).set r1).set r2) x.ff⟩
  · exact hd.elim
theorem sparO2 (i j : Nat) {x y : Str} {px py pt lp : Pos} {kt k2 pt2} (hN : X.N.Nodup) (ha : DE X c a ma) (hc : X.calm = true := by rfl) (hi : X.N[i]? = some x := by rfl) (hj : X.N[j]? = some y := by rfl) (hij : i ≠ j := by decide)
    (hx : X.env.scope.names.lookup x = some .local := by rfl) (hy : X.env.scope.names.lookup y = some .local := by rfl)
    (hw : swappedStores [.Tuple [.Name x px, .Name y py] kt pt] (.Tuple [a, .List [] lp] k2 pt2) X.env = pure (some [x, y]) := by rfl)
    (hs : swapsWithSole [.Tuple [.Name x px, .Name y py] kt pt] (.Tuple [a, .List [] lp] k2 pt2) pos.line X.env = pure false := by rfl)
    (he : starEach [a, .List [] lp] X.env = (false, eval a X.env) :: starEach [.List [] lp] X.env := by rfl) (he2 : starEach [.List [] lp] X.env = (false, eval (.List [] lp) X.env) :: starEach [] X.env := by rfl) :
    DS X c (.Assign [.Tuple [.Name x px, .Name y py] kt pt] (.Tuple [a, .List [] lp] k2 pt2) pos) (dParO2 i j (dCons ma dNil)) := by
  refine ⟨PS.imp (ps_par hc hN hi hj hij hx hy (pa_cons ha.run (pa_cons (pe_lst pa_nil) pa_nil he2) he) hw hs) fun D σ H h => ?_⟩
  obtain ⟨F, en, R, r, h, k⟩ := h
  refine ⟨F, en, _, r, h, fun e hd v F1 H1 x rv => ?_⟩
  refine ⟨Nat.zero_le _, fun p hp => ?_⟩
  have r1 := (r.grow x).set (i := i) rv
  have r0 : SR X.K c F1 ((σ.set i (some v)).set j (some (.ref p))) (upd H1 p (.lst [])) ((en.set i (.val e)).set j (.own [])) := r1.setO hp ⟨p, [], rfl, upd_same, .nil, Nat.zero_le _⟩
  exact ⟨v, .ref p, rfl, k.nx _ _ F1 _ hd r0 x.ff⟩
end
end Lay
namespace Lay
open PySem PySem.Spec L2
open PyProof.Rows hiding St
def minLD : DC := fun ds Q => match ds with | [.list xs] => ∃ ns : List Int, xs = ns.map .int ∧ 0 < ns.length ∧ ∀ m, m ∈ ns → (∀ y, y ∈ ns → m ≤ y) → Q (.int m) | _ => False
section
variable {X : Cx} {c : Ct} {a : Expr} {ml : DTA} {pos : Pos}
theorem sv_minL {K : PySem.W.Frag} : ServesC K c (rMin K) minLD := by
  intro F H vs ds R Q ex rv h k
  unfold minLD at h
  split at h
  · obtain ⟨ns, rfl, h0, h⟩ := h
    obtain ⟨v, rfl, r1⟩ := rv.one
    obtain ⟨p, ys, rfl, g1, g2, g3⟩ := r1.lstI
    have e := g2.ints_inv
    subst e
    exact ⟨p, ns, rfl, SqL.of (ex.fh _ _ g1), h0, fun m h1 h2 => k _ (h m h1 h2) _ F H ex (.int _)⟩
  · exact h.elim
theorem de_minL {p : Pos} (hc : X.calm = true) (hm : X.mg "min" = none) (ha : DA X c [a] ml) (hg : Gl X "min" := by rfl) (he : starEach [a] X.env = (false, eval a X.env) :: starEach [] X.env := by rfl) (hpl : (backTo pos (starEach [] X.env)).any (·.1) = false := by rfl) : DE X c (.Call (.Name "min" p) [a] [] pos) (dB minLD ml) :=
  de_callB (cr_min hc) sv_minL hg hm boot_min ha (by decide) (by decide) he hpl
end
theorem minLD_lst {xs : List D} {Q : D → Prop} : minLD [.list xs] Q = ∃ ns : List Int, xs = ns.map .int ∧ 0 < ns.length ∧ ∀ m, m ∈ ns → (∀ y, y ∈ ns → m ≤ y) → Q (.int m) := rfl
theorem memD_str {n : Str} : ∀ ns : List Str, memD (.str n) (ns.map .str) = decide (n ∈ ns)
  | [] => rfl
  | k :: ns => by
    have q := memD_str (n := n) ns
    unfold memD at q ⊢
    rw [List.map_cons, List.any_cons, q]
    by_cases h : k = n
    · subst h; simp [eqv_str]
    · have h' : ¬ n = k := fun z => h z.symm
      simp [eqv_str, h, h']
theorem flat_strs : ∀ ns : List Str, (ns.map PyData.str).all flatD = true
  | [] => rfl
  | n :: ns => by rw [List.map_cons, List.all_cons, flat_strs ns]; rfl
theorem in_tupS {neg : Bool} {n : Str} (ns : List Str) {Q : D → Prop} (h : Q (.bool (if neg then !decide (n ∈ ns) else decide (n ∈ ns)))) : inD neg (.str n) (.tuple (ns.map .str)) Q := by
  show (flatD (.str n) = true ∧ _) ∧ _
  refine ⟨⟨rfl, flat_strs ns⟩, ?_⟩
  rw [memD_str]; exact h
end Lay
namespace Lay
open PySem PySem.Spec L2
open PyProof.Rows hiding St
section
variable {z : Bool} {g : DTG} {mt : DTT} {me : DTE} {vs : List Nat} {en : En} {Q : D → Prop} {ds : List D}
theorem lc_rel (Pr : D → D → Prop) (hz : z = false → ds.length ≤ sizeLine)
    (h : ∀ d ∈ ds, ∀ P : Option D → Prop, (∀ y, Pr d y → P (some y)) → g d (wipeE en vs) fun en' => mt en' fun b => Cnd b (me en' fun y => P (some y)) (P none))
    (q : ∀ ys : List D, ys.length = ds.length → (∀ (i : Nat) d y, ds[i]? = some d → ys[i]? = some y → Pr d y) → Q (.list ys)) : LcW z g mt me vs ds en Q := by
  refine ⟨hz, fun i acc => acc.length = i ∧ ∀ (j : Nat) d y, ds[j]? = some d → acc[j]? = some y → Pr d y, ⟨rfl, fun j d y _ e => by simp at e⟩, fun i d acc hd _ ⟨hl, ha⟩ => ?_, fun acc _ ⟨hl, ha⟩ => q acc hl ha⟩
  refine h d (List.mem_of_getElem? hd) (fun o => match o with | some y => (acc ++ [y]).length = i + 1 ∧ ∀ (j : Nat) (d y_1 : D), ds[j]? = some d → (acc ++ [y])[j]? = some y_1 → Pr d y_1 | none => acc.length = i + 1 ∧ ∀ (j : Nat) (d y : D), ds[j]? = some d → acc[j]? = some y → Pr d y) fun y hy => ?_
  refine ⟨by rw [List.length_append, hl]; rfl, fun j d' y' e1 e2 => ?_⟩
  rcases Nat.lt_or_ge j acc.length with c | c
  · rw [List.getElem?_append_left c] at e2
    exact ha j d' y' e1 e2
  · rw [List.getElem?_append_right c] at e2
    have hj : j = i := by
      have := (List.getElem?_eq_some_iff.mp e2).1
      simp only [List.length_cons, List.length_nil] at this
      omega
    subst hj
    rw [hl, Nat.sub_self] at e2
    simp only [List.getElem?_cons_zero, Option.some.injEq] at e2
    subst e2
    rw [hd] at e1
    cases e1
    exact hy
theorem lc_each (Pr : D → Prop) (hz : z = false → ds.length ≤ sizeLine)
    (h : ∀ d ∈ ds, ∀ P : Option D → Prop, (∀ y, Pr y → P (some y)) → g d (wipeE en vs) fun en' => mt en' fun b => Cnd b (me en' fun y => P (some y)) (P none))
    (q : ∀ ys : List D, ys.length = ds.length → (∀ y ∈ ys, Pr y) → Q (.list ys)) : LcW z g mt me vs ds en Q :=
  lc_rel (fun _ y => Pr y) hz h fun ys hl hy => q ys hl fun y m => by
    obtain ⟨i, hi, e⟩ := List.mem_iff_getElem.mp m
    exact hy i (ds[i]'(by omega)) y (List.getElem?_eq_getElem (by omega)) (by rw [List.getElem?_eq_getElem hi, e])
end
end Lay
namespace Lay
open PySem PySem.Spec L2
open PyProof.Rows hiding St
abbrev KRow := List Key × Addr × V
def mergeT (rows : List KRow) : List (List Key × V) := rows.foldl (fun acc x => putK acc x.1 x.2.2) []
def tDispT (trs : List (TE × TE)) : TE := fun σ H Q => ∀ p, H p = none → tPairs trs σ (upd H p (.dT [])) fun ps H2 => H2 p = some (.dT []) ∧ ∃ rows : List KRow, ps = rows.map (fun x => (V.ref x.2.1, x.2.2)) ∧ (∀ x ∈ rows, H2 x.2.1 = some (.tup (x.1.map kV))) ∧ rows.length ≤ 15 ∧
  ∀ od, Q (.ref p) (upd H2 p (.frz od (.dT (mergeT rows))))
section
variable {X : Cx} {pos : Pos}
abbrev knT (X : Cx) := tupleKind (mixKind X.prog X.w)
theorem carriesT {h : Heap} : ∀ {rows : List KRow} {ws : List (Value × Value)}, VV (rows.map fun x => (V.ref x.2.1, x.2.2)) ws → (∀ x ∈ rows, (knT X).is h x.1 x.2.1) →
    ∃ es : List (List Key × Addr × Value), CarriesH (knT X) h ws es ∧ Paired (fun (x : KRow) (y : List Key × Addr × Value) => x.1 = y.1 ∧ x.2.1 = y.2.1 ∧ RelV x.2.2 y.2.2) rows es
  | [], _, r, _ => by rw [List.map_nil] at r; cases r; exact ⟨[], True.intro, .nil⟩
  | x :: rows, _, r, hk => by
    rw [List.map_cons] at r
    cases r with
    | @cons _ b _ bs q t =>
      obtain ⟨es, c1, c2⟩ := carriesT (h := h) t fun y hy => hk y (List.mem_cons_of_mem _ hy)
      obtain ⟨b1, b2⟩ := b
      exact ⟨(x.1, x.2.1, b2) :: es, ⟨q.1, rfl, hk x List.mem_cons_self, c1⟩, .cons ⟨rfl, rfl, q.2⟩ c2⟩
theorem kt_fold {H : Hp} : ∀ {rows : List KRow} {es : List (List Key × Addr × Value)}, Paired (fun (x : KRow) (y : List Key × Addr × Value) => x.1 = y.1 ∧ x.2.1 = y.2.1 ∧ RelV x.2.2 y.2.2) rows es → (∀ x ∈ rows, H x.2.1 = some (.tup (x.1.map kV))) →
    ∀ {acc : List (List Key × V)} {acc' : List (List Key × Addr × Value)}, KT H acc acc' → KT H (rows.foldl (fun acc x => putK acc x.1 x.2.2) acc) (storedAllH acc' es) := by
  intro rows es r
  induction r with
  | nil => intro _ _ _ q; exact q
  | @cons x y xs ys h _ ih =>
    intro ht acc acc' q
    obtain ⟨h1, h2, h3⟩ := h
    have step : KT H (putK acc x.1 x.2.2) (storedH acc' y.1 y.2.1 y.2.2) := by
      rw [← h1, ← h2]
      exact q.put x.1 (ht x List.mem_cons_self) h3
    exact ih (fun z hz => ht z (List.mem_cons_of_mem _ hz)) step
theorem len_fold : ∀ (rows : List KRow) (acc : List (List Key × V)), (rows.foldl (fun acc x => putK acc x.1 x.2.2) acc).length ≤ acc.length + rows.length
  | [], _ => Nat.le_refl _
  | x :: rows, acc => by
    have h1 := len_fold rows (putK acc x.1 x.2.2)
    have h2 := length_putK acc x.1 x.2.2
    rw [List.foldl_cons, List.length_cons]
    omega
theorem pe_dispT {keys : List (Option Expr)} {values : List Expr} {trs : List (TE × TE)} (hu : X.A.units + 64 < cLine) (h : PPs X pos keys values trs) (hall : keys.all (·.isSome) = true) (hl : keys.length = values.length) (h0 : keys ≠ []) (h15 : keys.length ≤ 15) :
    PE X (.Dict keys values pos) (tDispT trs) := by
  refine ⟨fun pins s σ H Q I q => ?_⟩
  have hn := I.hok.fresh (Nat.le_refl s.heap.objs.size)
  have I1 := I.laid (a := s.heap.objs.size) (o := .dT []) (h' := s.heap.push { cls := .type "dict", data := .dict #[] }) (t' := s.toks) (fun _ _ q => Heap.get?_push_of_some _ q) (Nat.le_refl _) (dt_empty s.heap I.big)
  have hp := pairTrees_length keys values X.env pos hall hl
  have hne : pairTrees keys values X.env pos ≠ [] := fun e => by
    rw [e] at hp
    exact h0 (List.length_eq_zero_iff.mp hp.symm)
  have room : (knT X).room X.A := show X.A.units < cLine by omega
  rw [arm_eval_Dict, zip_pairTrees keys values X.env pos hall hl, dictDisplay_pairs _ hne (by omega)]
  refine wpAny_bind (wpAny_standAt (wpAny_bind (wpAny_subDictH (knd := knT X) room (by omega) (thn (h.run pins _ σ _ _ I1 (q _ hn)) fun ws s2 ⟨ps, H2, I2, rel, e, rows, ep, ht, lk, q2⟩ => ?_))))
  subst ep
  obtain ⟨es, c1, c2⟩ := carriesT (X := X) (h := s2.heap) rel fun x hx => key_of I2.hok (ht x hx)
  obtain ⟨z, hd, xs0, r0, dd⟩ := dt_of I2.hok e
  cases r0
  refine ⟨es, c1, dd, fun h' tk dd' hs => wpAny_pure ?_⟩
  have hz : (mergeT rows).length ≤ sizeLine := by
    have h1 := len_fold rows []
    rw [List.length_nil] at h1
    unfold mergeT
    rw [sizeLine_eq]
    omega
  have kt := kt_fold (H := H2) c2 ht (acc := []) (acc' := []) .nil
  obtain ⟨ob, ents, ep, hq, k2, k3, k4, _, k5⟩ := dd'
  have J : Inv X pins σ (upd H2 s.heap.objs.size (.dT (mergeT rows))) { s2 with heap := h', toks := tk } :=
    d_write I2 (by rw [e]; exact True.intro) hs ⟨ob, hq⟩ ⟨hz, hd, _, kt.keeps fun c ys ec => by
      rw [upd_ne (ne_of ec e (fun z => nomatch z))]
      exact ec, ob, ents, ep, hq, k2, k3, k4, k5⟩
  obtain ⟨od, J2⟩ := J.lock (d := s.heap.objs.size) (u := .dT (mergeT rows)) upd_same True.intro
  rw [upd_upd] at J2
  exact ⟨.ref s.heap.objs.size, _, J2, rfl, q2 od⟩
end
def onPair (ds : List D) (K : Int → Int → Prop) : Prop := match ds with | [.int i, .int j] => K i j | _ => False
theorem onPair_ii {i j : Int} {K : Int → Int → Prop} : onPair [.int i, .int j] K = K i j := rfl
def rdPairs : List DTA → En → (List (Int × Int) → Prop) → Prop
  | [], _, Q => Q []
  | m :: r, en, Q => m en fun ds => onPair ds fun i j => rdPairs r en fun ks => Q ((i, j) :: ks)
theorem rdPairs_nil {en : En} {Q : List (Int × Int) → Prop} : rdPairs [] en Q = Q [] := rfl
theorem rdPairs_cons {m : DTA} {r : List DTA} {en : En} {Q : List (Int × Int) → Prop} : rdPairs (m :: r) en Q = m en fun ds => onPair ds fun i j => rdPairs r en fun ks => Q ((i, j) :: ks) := rfl
def firsts (ks : List (Int × Int)) : List (Int × Int) := ks.foldl (fun acc k => if k ∈ acc then acc else acc ++ [k]) []
def pairI (k : Int × Int) : D := .tuple [.int k.1, .int k.2]
def keyI (k : Int × Int) : List Key := [.inl k.1, .inl k.2]
def dKeysW (rs : List DTA) (en : En) (Q : List D → Prop) : Prop := rdPairs rs en fun ks => Q ((firsts ks).map pairI)
inductive DKs (X : Cx) (c : Ct) : List (Option Expr) → List Expr → List DTA → List (TE × TE) → Prop
  | nil : DKs X c [] [] [] []
  | cons {a b v : Expr} {n} {tp : Pos} {i : Int} {ml : DTA} {ks : List (Option Expr)} {vs : List Expr} {rs : List DTA} {ts : List (TE × TE)} : DA X c [a, b] ml → PE X v (tC (.int i)) → DKs X c ks vs rs ts →
      DKs X c (some (.Tuple [a, b] n tp) :: ks) (v :: vs) (ml :: rs) ((tTup (liftA X.K c 2 ml), tC (.int i)) :: ts)
section
variable {X : Cx} {c : Ct} {pos : Pos}
theorem DKs.pps {ks : List (Option Expr)} {vs : List Expr} {rs : List DTA} {ts : List (TE × TE)} (h : DKs X c ks vs rs ts) : PPs X pos ks vs ts := by
  induction h with
  | nil => exact pps_nil
  | cons h1 h2 _ ih => exact pps_cons (pe_tup h1.run) h2 ih
theorem DKs.lift {ks : List (Option Expr)} {vs : List Expr} {rs : List DTA} {ts : List (TE × TE)} (h : DKs X c ks vs rs ts) :
    ∀ {σ : St} {F H : Hp} {en : En} {Q : List (Int × Int) → Prop} {R : List (V × V) → Hp → Prop}, SR X.K c F σ H en → rdPairs rs en Q →
      (∀ (F2 H2 : Hp) (rows : List KRow) (ns : List (Int × Int)), Q ns → Ext c.wo F H F2 H2 → rows.map (·.1) = ns.map keyI → (∀ x ∈ rows, H2 x.2.1 = some (.tup (x.1.map kV))) → rows.length = ks.length → R (rows.map fun x => (V.ref x.2.1, x.2.2)) H2) → tPairs ts σ H R := by
  induction h with
  | nil =>
    intro σ F H en Q R r h k
    exact k F H [] [] h r.ext.self rfl (fun x hx => nomatch hx) rfl
  | @cons a b v n tp i ml ks vs rs ts h1 h2 _ ih =>
    intro σ F H en Q R r h k
    refine ⟨F, en, _, r, h, fun ds hd ws F1 H1 x1 rv hn => ?_⟩
    unfold onPair at hd
    split at hd
    · rename_i i1 j1
      cases rv with
      | cons ra rv =>
        cases rv with
        | cons rb rv =>
          cases rv
          cases ra
          cases rb
          have two : 2 ≤ sizeLine := by decide
          refine ⟨two, fun p hp => ?_⟩
          obtain ⟨y1, y2⟩ := newTup (c := c) (K := X.K) (ds := [.int i1, .int j1]) x1.self hp (.cons (.int _) (.cons (.int _) .nil)) two
          refine ih ((r.grow x1).grow y1) hd fun F2 H2 rows ns hq x2 em ht hl => ?_
          refine k F2 H2 (([.inl i1, .inl j1], p, .int i) :: rows) ((i1, j1) :: ns) hq (x1.trans (y1.trans x2)) (by rw [List.map_cons, em]; rfl) (fun x hx => ?_) (by rw [List.length_cons, List.length_cons, hl])
          rcases List.mem_cons.mp hx with rfl | hx
          · have hw : ¬ isW c.wo p := fun ⟨d, q⟩ => (x1.wne hp _ q).1 rfl
            exact x2.hh _ _ upd_same hw
          · exact ht x hx
    · exact hd.elim
theorem fold_keys : ∀ (rows : List KRow) (ns acc : List (Int × Int)) (kvs : List (List Key × V)), rows.map (·.1) = ns.map keyI → kvs.map (·.1) = acc.map keyI →
    (rows.foldl (fun acc x => putK acc x.1 x.2.2) kvs).map (·.1) = (ns.foldl (fun acc k => if k ∈ acc then acc else acc ++ [k]) acc).map keyI
  | [], [], _, _, _, h => h
  | [], _ :: _, _, _, e, _ => by simp at e
  | _ :: _, [], _, _, e, _ => by simp at e
  | x :: rows, n :: ns, acc, kvs, e, h => by
    rw [List.map_cons, List.map_cons] at e
    obtain ⟨e1, e2⟩ := List.cons.inj e
    rw [List.foldl_cons, List.foldl_cons]
    refine fold_keys rows ns _ _ e2 ?_
    have inj : ∀ a b : Int × Int, keyI a = keyI b → a = b := fun a b q => by
      unfold keyI at q
      simp only [List.cons.injEq, Sum.inl.injEq, and_true] at q
      exact Prod.ext q.1 q.2
    have mem : (kvs.any fun kv => decide (kv.1 = x.1)) = true ↔ n ∈ acc := by
      rw [List.any_eq_true]
      constructor
      · rintro ⟨kv, hm, hk⟩
        have hk := of_decide_eq_true hk
        have : kv.1 ∈ acc.map keyI := by rw [← h]; exact List.mem_map.mpr ⟨kv, hm, rfl⟩
        obtain ⟨a, ha, ea⟩ := List.mem_map.mp this
        rw [← inj a n (by rw [ea, hk, e1])]
        exact ha
      · intro hm
        have : keyI n ∈ kvs.map (·.1) := by rw [h]; exact List.mem_map.mpr ⟨n, hm, rfl⟩
        obtain ⟨kv, hk, ek⟩ := List.mem_map.mp this
        exact ⟨kv, hk, decide_eq_true (by rw [ek, e1])⟩
    unfold putK
    by_cases q : n ∈ acc
    · rw [if_pos q, if_pos (mem.mpr q), List.map_map]
      rw [← h]
      refine List.map_congr_left fun kv _ => ?_
      show (if kv.1 = x.1 then (kv.1, x.2.2) else kv).1 = kv.1
      split <;> rfl
    · rw [if_neg q, if_neg (fun z => q (mem.mp z)), List.map_append, List.map_append, h]
      rw [List.map_cons, List.map_cons]
      rw [show x.1 = keyI n from e1]
      rfl
theorem dwalk_keys {K : PySem.W.Frag} {wo : Option (Addr × Addr)} {F : Hp} {p : Addr} {od : Obj} {kvs : List (List Key × V)} {ns : List (Int × Int)} (h : F p = some (.frz od (.dT kvs))) (hk : kvs.map (·.1) = ns.map keyI) : DWalk K wo (Itkt p od kvs) F (ns.map pairI) where
  go := fun i d F' H hF x e => by
    refine ⟨x.fh _ _ (hF _ _ h), ?_⟩
    have := (List.getElem?_eq_some_iff.mp e).1
    have h2 := congrArg List.length hk
    rw [List.length_map, List.length_map] at h2
    rw [List.length_map] at this
    omega
  yld := fun i d F' H x H' hF ex e y => by
    obtain ⟨e1, k, v, q, hkv, rfl, hq⟩ := y
    subst e1
    rw [List.getElem?_map] at e
    obtain ⟨n, hn, rfl⟩ := Option.map_eq_some_iff.mp e
    have ek : k = keyI n := by
      have h2 := congrArg (·[i]?) hk
      simp only [List.getElem?_map, hkv, hn, Option.map_some, Option.some.injEq] at h2
      exact h2
    subst ek
    have two : ([PyData.int n.1, PyData.int n.2] : List D).length ≤ sizeLine := (show 2 ≤ sizeLine by decide)
    have rs : ∀ F'' : Hp, F'' q = some (.tup ((keyI n).map kV)) → Rep K F'' (.ref q) (pairI n) := fun F'' hf => .tup (SqT.of hf) (.cons (.int _) (.cons (.int _) .nil)) two
    cases e2 : F' q with
    | some o =>
      have := ex.fh _ _ e2
      rw [hq] at this
      cases this
      exact ⟨F', ex, rs F' e2⟩
    | none =>
      refine ⟨upd F' q (.tup ((keyI n).map kV)), ⟨fun a o z => ?_, fun a o z => ?_, fun _ _ z _ => z, fun a o z w => ?_, ex.wk⟩, rs _ upd_same⟩
      · rw [upd_ne (ne_of_none z e2)]; exact z
      · by_cases c : a = q
        · subst c; rw [upd_same] at z; cases z; exact hq
        · rw [upd_ne c] at z; exact ex.fh a o z
      · by_cases c : a = q
        · subst c; exact .inr ⟨_, hq⟩
        · rw [upd_ne c] at z; rw [w] at z; cases z
  stop := fun F' H hF x => by
    refine ⟨x.fh _ _ (hF _ _ h), ?_⟩
    have h2 := congrArg List.length hk
    rw [List.length_map, List.length_map] at h2
    rw [List.length_map]
    omega
theorem firsts_len (ks : List (Int × Int)) : (firsts ks).length ≤ ks.length := by
  have : ∀ (ks acc : List (Int × Int)), (ks.foldl (fun acc k => if k ∈ acc then acc else acc ++ [k]) acc).length ≤ acc.length + ks.length := by
    intro ks
    induction ks with
    | nil => intro acc; exact Nat.le_refl _
    | cons k ks ih =>
      intro acc
      rw [List.foldl_cons, List.length_cons]
      refine Nat.le_trans (ih _) ?_
      split
      · omega
      · rw [List.length_append, List.length_singleton]; omega
  have := this ks []
  rw [List.length_nil, Nat.zero_add] at this
  exact this
/-- the keys of a written dict, walked -/
theorem di_keysW {tg : Expr} {ks : List (Option Expr)} {vs : List Expr} {rs : List DTA} {ts : List (TE × TE)} (hu : X.A.units + 64 < cLine) (h : DKs X c ks vs rs ts) (hall : ks.all (·.isSome) = true := by rfl) (hl : ks.length = vs.length := by rfl) (h0 : ks ≠ [] := by exact List.cons_ne_nil _ _) (h15 : ks.length ≤ 15 := by decide) :
    DI X c tg (.Dict ks vs pos) true (dKeysW rs) := by
  refine ⟨PI.imp (pi_keys (pe_dispT hu h.pps hall hl h0 h15)) fun σ H Q q => ?_⟩
  obtain ⟨F, en, R, r, q, k⟩ := q
  intro p hp
  have fp : F p = none := by
    cases e : F p with
    | none => rfl
    | some u => rw [r.fh _ _ e] at hp; cases hp
  have x0 : Ext c.wo F H F (upd H p (.dT [])) := r.ext.self.poke hp fp (r.ext.wne hp)
  refine h.lift (r.grow x0) q fun F2 H2 rows ns hq x2 em ht hl2 => ?_
  have hw : ¬ isW c.wo p := fun ⟨d, w⟩ => (r.ext.wne hp _ w).1 rfl
  have hp2 : H2 p = some (.dT []) := x2.hh _ _ upd_same hw
  have ll : rows.length ≤ 15 := by omega
  refine ⟨hp2, rows, rfl, ht, ll, fun od => ?_⟩
  refine ⟨p, od, rfl, .inr ⟨mergeT rows, upd_same, ?_⟩⟩
  have fp2 : F2 p = none := by
    cases e : F2 p with
    | none => rfl
    | some u =>
      rcases x2.nw _ _ e fp with z | ⟨_, z⟩ <;> (rw [upd_same] at z; cases z)
  have nw0 : ∀ a u, H a = some u → a ≠ p := fun a u e => ne_of_none e hp
  have x3 : Ext c.wo F H (upd F2 p (.frz od (.dT (mergeT rows)))) (upd H2 p (.frz od (.dT (mergeT rows)))) := by
    have x := x0.trans x2
    refine ⟨fun a o e => ?_, fun a o e => ?_, fun a o e n => by rw [upd_ne (nw0 a o e)]; exact x.hh a o e n, fun a o e n => ?_, fun w e => (x.wk w e).keep (fun o z => ?_) (fun o z => ?_)⟩
    · have := x.ff a o e
      rw [upd_ne (ne_of_none this fp2)]; exact this
    · by_cases z : a = p
      · subst z; rw [upd_same] at e ⊢; exact e
      · rw [upd_ne z] at e ⊢; exact x.fh a o e
    · by_cases z : a = p
      · subst z; exact .inl hp
      · rw [upd_ne z] at e; exact x.nw a o e n
    · rw [upd_ne (r.ext.wne hp w e).1.symm]; exact z
    · rw [upd_ne (r.ext.wne hp w e).2.symm]; exact z
  have hk : (mergeT rows).map (·.1) = (firsts ns).map keyI := fold_keys rows ns [] [] em rfl
  refine k _ hq _ _ _ x3 (dwalk_keys upd_same hk) fun _ => ?_
  have l1 := firsts_len ns
  have l2 := congrArg List.length em
  rw [List.length_map, List.length_map] at l2
  rw [List.length_map]
  have : 15 ≤ sizeLine := by decide
  omega
end
end Lay
namespace Lay
open PySem PySem.Spec L2
open PyProof.Rows hiding St
/-- x in xs, items of any kind -/
def inTD : D2 := fun d e Q => match e with
  | .list ds => (d.depth ≤ 60 ∧ SeqAt.shaped d = true ∧ SeqAt.shaped (.list ds) = true) ∧ Q (.bool (ds.any fun z => PyData.eqv z d))
  | _ => False
theorem inTD_lst {d : D} {ds : List D} {Q : D → Prop} : inTD d (.list ds) Q = ((d.depth ≤ 60 ∧ SeqAt.shaped d = true ∧ SeqAt.shaped (.list ds) = true) ∧ Q (.bool (ds.any fun z => PyData.eqv z d))) := rfl
def rInT (K : PySem.W.Frag) : R2 := fun x y H Q => ∃ d ds, d.depth ≤ 60 ∧ Dp K H x d ∧ Dp K H y (.list ds) ∧ SeqAt.shaped d = true ∧ SeqAt.shaped (.list ds) = true ∧ Q (.bl (ds.any fun z => PyData.eqv z d)) H
section
variable {X : Cx} {c : Ct} {a b : Expr} {ma mb : DTE} {pos : Pos}
theorem op_inT (hu : X.A.units + 64 < cLine) : OpR X (compareOp .In) (rInT X.K) := by
  intro pins s σ H x y v u Q I rx ry h
  obtain ⟨d, ds, dd, hd, he, sd, se, q⟩ := h
  obtain ⟨as, r1⟩ := Dp.reads I d x v hd rx
  obtain ⟨bs, r2⟩ := Dp.reads I (.list ds) y u he ry
  have room : X.A.units + 1 + min (PyData.depthAll ds) d.depth < cLine := by
    have h2 : min (PyData.depthAll ds) d.depth ≤ d.depth := Nat.min_le_right _ _
    omega
  exact SeqAt.in_list_reads r2 r1 (SeqAt.canLay_of_shaped se) (SeqAt.canLay_of_shaped sd) room ⟨.bl _, H, I, rfl, q⟩
theorem sv_inT {K : PySem.W.Frag} : Serves K c (rInT K) inTD := by
  intro F H x y d e R Q ex rx ry h k
  unfold inTD at h
  split at h
  · rename_i ds
    obtain ⟨⟨h1, h2, h3⟩, h⟩ := h
    exact ⟨d, ds, h1, Rep.dp ex.fh d x rx, Rep.dp ex.fh _ y ry, h2, h3, k _ h _ F H ex (.bl _)⟩
  · exact h.elim
theorem de_inT (hu : X.A.units + 64 < cLine) (ha : DE X c a ma) (hb : DE X c b mb) (hm : behindInMarks .In b = false := by rfl) : DE X c (.Compare a [.In] [b] pos) (dOp inTD ma mb) := de_cmp (op_inT hu) sv_inT ha hb hm
theorem dt_inT (hu : X.A.units + 64 < cLine) (ha : DE X c a ma) (hb : DE X c b mb) (hm : behindInMarks .In b = false := by rfl) : DT X c (.Compare a [.In] [b] pos) (dT (dOp inTD ma mb)) := dt_cmp (op_inT hu) sv_inT ha hb hm
end
end Lay
namespace Lay
open PySem PySem.Spec L2 RZ
open PyProof.Rows hiding St
def Itz3 (K : PySem.W.Frag) (a b e : Addr) : It :=
  ⟨fun i H => ∃ (xs ys zs : List V) (x y z : V), SqT K H a xs ∧ SqT K H b ys ∧ SqT K H e zs ∧ xs[i]? = some x ∧ ys[i]? = some y ∧ zs[i]? = some z,
    fun i H v H' => ∃ T x y z, v = .ref T ∧ H T = none ∧ H' = upd H T (.tup [x, y, z]) ∧ (∀ xs, SqT K H a xs → xs[i]? = some x) ∧ (∀ ys, SqT K H b ys → ys[i]? = some y) ∧ ∀ zs, SqT K H e zs → zs[i]? = some z,
    fun i H => ∃ xs ys zs : List V, SqT K H a xs ∧ SqT K H b ys ∧ SqT K H e zs ∧ i ≤ xs.length ∧ i ≤ ys.length ∧ i ≤ zs.length ∧ (i = xs.length ∨ i = ys.length ∨ i = zs.length)⟩
/-- the six new cells and the three tuples lie apart -/
structure Apart6 (z TI TO i1 i2 i3 a b e : Addr) : Prop where
  TIz : TI ≠ z
  TOz : TO ≠ z
  TITO : TI ≠ TO
  TI1 : TI ≠ i1
  TI2 : TI ≠ i2
  TI3 : TI ≠ i3
  TO1 : TO ≠ i1
  TO2 : TO ≠ i2
  TO3 : TO ≠ i3
  z1 : z ≠ i1
  z2 : z ≠ i2
  z3 : z ≠ i3
  i12 : i1 ≠ i2
  i13 : i1 ≠ i3
  i23 : i2 ≠ i3
  a : ∀ c ∈ [z, TI, TO, i1, i2, i3], a ≠ c
  b : ∀ c ∈ [z, TI, TO, i1, i2, i3], b ≠ c
  e : ∀ c ∈ [z, TI, TO, i1, i2, i3], e ≠ c
theorem Apart6.sep {z TI TO i1 i2 i3 a b e : Addr} (D : Apart6 z TI TO i1 i2 i3 a b e) : ZipSep3 z TI TO i1 i2 i3 [i1, a] [i2, b] [i3, e] where
  TIz := D.TIz
  TOz := D.TOz
  TITO := D.TITO
  TIi1 := D.TI1
  mem1 := by simp
  zf1 := by simp [D.z1, (D.a z (by simp)).symm]
  Tf1 := by simp [D.TO1, (D.a TO (by simp)).symm]
  TIi2 := D.TI2
  mem2 := by simp
  zf2 := by simp [D.z2, (D.b z (by simp)).symm]
  Tf2 := by simp [D.TO2, (D.b TO (by simp)).symm]
  TIi3 := D.TI3
  mem3 := by simp
  zf3 := by simp [D.z3, (D.e z (by simp)).symm]
  Tf3 := by simp [D.TO3, (D.e TO (by simp)).symm]
  sep1_2 := by simp [D.i12, (D.b i1 (by simp)).symm]
  sep1_3 := by simp [D.i13, (D.e i1 (by simp)).symm]
  sep2_1 := by simp [D.i12.symm, (D.a i2 (by simp)).symm]
  sep2_3 := by simp [D.i23, (D.e i2 (by simp)).symm]
  sep3_1 := by simp [D.i13.symm, (D.a i3 (by simp)).symm]
  sep3_2 := by simp [D.i23.symm, (D.b i3 (by simp)).symm]
theorem turn_zip3 {P : Program} {w : World} {K : PySem.W.Frag} {elts : List Expr} {kk : Nat} {tpos : Pos} {a b e z TI TO i1 i2 i3 : Addr} (D : Apart6 z TI TO i1 i2 i3 a b e) :
    Turn P w K (.Tuple elts kk tpos) (Itz3 K a b e) [z, TI, TO, i1, i2, i3] z (fun i h => IsZip h z TI TO .none ∧ IsTupOf3 h TI (.ref i1) (.ref i2) (.ref i3) ∧ (∃ x y u, IsTupOf3 h TO x y u) ∧ h.IsTupleIter i1 a i ∧ h.IsTupleIter i2 b i ∧ h.IsTupleIter i3 e i) where
  mem := by simp
  obj := fun i h st c hc => by
    obtain ⟨hz, hTI, ⟨x, y, u, hTO⟩, ⟨o1, e1, _, d1⟩, ⟨o2, e2, _, d2⟩, ⟨o3, e3, _, d3⟩⟩ := st
    have e' : c = z ∨ c = TI ∨ c = TO ∨ c = i1 ∨ c = i2 ∨ c = i3 := by simpa using hc
    rcases e' with q | q | q | q | q | q
    · rw [q]; exact ⟨_, hz, fun v q => nomatch q⟩
    · rw [q]; exact ⟨_, hTI, fun v q => nomatch q⟩
    · rw [q]; exact ⟨_, hTO, fun v q => nomatch q⟩
    · rw [q]; exact ⟨o1, e1, fun v q => by rw [d1] at q; cases q⟩
    · rw [q]; exact ⟨o2, e2, fun v q => by rw [d2] at q; cases q⟩
    · rw [q]; exact ⟨o3, e3, fun v q => by rw [d3] at q; cases q⟩
  keep := fun i h h' st k => by
    obtain ⟨hz, hTI, ⟨x, y, u, hTO⟩, h1, h2, h3⟩ := st
    exact ⟨k z (by simp) _ hz, k TI (by simp) _ hTI, ⟨x, y, u, k TO (by simp) _ hTO⟩, h1.at fun o q => k i1 (by simp) o q, h2.at fun o q => k i2 (by simp) o q, h3.at fun o q => k i3 (by simp) o q⟩
  item := by
    intro X hP hw hK hc i pins s σ H E I hf st hg
    subst hP hw hK
    obtain ⟨hz, hTI, ⟨x0, y0, u0, hTO⟩, h1, h2, h3⟩ := st
    obtain ⟨xs, ys, zs, x, y, u, hqx, hqy, hqz, hx, hy, hu⟩ := hg
    obtain ⟨it1, rv1, p1, _⟩ := I.tuple hqx
    obtain ⟨it2, rv2, p2, _⟩ := I.tuple hqy
    obtain ⟨it3, rv3, p3, _⟩ := I.tuple hqz
    obtain ⟨v1, g1, r1⟩ := rv1.get hx
    obtain ⟨v2, g2, r2⟩ := rv2.get hy
    obtain ⟨v3, g3, r3⟩ := rv3.get hu
    have hh : X.A.in1.handled = none := by simp [I.ok.hd hc]
    have D1 := Draws.tuple (prog := X.prog) (w := X.w) hh i1 a (D.a i1 (by simp)) it1.toArray
    have D2 := Draws.tuple (prog := X.prog) (w := X.w) hh i2 b (D.b i2 (by simp)) it2.toArray
    have D3 := Draws.tuple (prog := X.prog) (w := X.w) hh i3 e (D.e i3 (by simp)) it3.toArray
    have lt : ∀ {vs : List Value} {v : Value}, vs[i]? = some v → i < vs.toArray.size := fun q => by
      have := (List.getElem?_eq_some_iff.mp q).1
      simpa using this
    have hzl : z < s.heap.objs.size := Heap.lt_size hz
    refine wpAny_pyNext_zipD3_item D.sep D1 D2 D3 hz hTI hTO ⟨h1, p1⟩ ⟨h2, p2⟩ ⟨h3, p3⟩ (lt g1) (lt g2) (lt g3) fun w1 w2 w3 h' tk q1 q2 q3 z' TO' st1 st2 st3 hT hsz hk => ?_
    have e1 : w1 = v1 := by
      have : it1[i]? = some w1 := by simpa using q1
      rw [g1] at this; cases this; rfl
    have e2 : w2 = v2 := by
      have : it2[i]? = some w2 := by simpa using q2
      rw [g2] at this; cases this; rfl
    have e3 : w3 = v3 := by
      have : it3[i]? = some w3 := by simpa using q3
      rw [g3] at this; cases this; rfl
    subst e1 e2 e3
    refine ⟨_, rfl, wpAny_letOwnedTupleGo_zip (s := { s with heap := h', toks := tk }) z' fun h'' z'' sb => ?_⟩
    have hT2 : h''.get? s.heap.objs.size = some { cls := .type "tuple", data := .seq #[w1, w2, w3] } := (sb.2 _ (Nat.ne_of_gt hzl)).trans hT
    have new : ObjOk X.prog X.w (upd H s.heap.objs.size (.tup [x, y, u])) h'' s.heap.objs.size (.tup [x, y, u]) :=
      ⟨by show 3 ≤ sizeLine; decide, [w1, w2, w3], .cons r1 (.cons r2 (.cons r3 .nil)), ⟨_, hT2, rfl, _, rfl⟩⟩
    have I1 : Inv X pins σ (upd H s.heap.objs.size (.tup [x, y, u])) { s with heap := h'', toks := tk } :=
      I.turnedNew (t' := tk) (ch := [z, TI, TO, i1, i2, i3]) (fun c o hb q => (sb.2 c (fun q' => hb (by simp [q']))).trans (hk c o (fun q' => hb (by simp [q'])) (fun q' => hb (by simp [q'])) (fun q' => hb (by simp [q'])) (fun q' => hb (by simp [q'])) (fun q' => hb (by simp [q'])) q)) hf (Nat.le_refl _) new
    refine ⟨.ref s.heap.objs.size, _, I1, rfl, ⟨_, x, y, u, rfl, I.hok.fresh (Nat.le_refl _), rfl, fun l hl => by rw [I.tuple_inj hl hqx]; exact hx, fun l hl => by rw [I.tuple_inj hl hqy]; exact hy, fun l hl => by rw [I.tuple_inj hl hqz]; exact hu⟩, ⟨z'', ?_, ⟨w1, w2, w3, ?_⟩, ?_, ?_, ?_⟩, fun c hcm => ?_⟩
    · exact (sb.2 _ D.TIz).trans (hk _ _ D.TIz D.TITO D.TI1 D.TI2 D.TI3 hTI)
    · exact (sb.2 _ D.TOz).trans TO'
    · exact st1.1.at fun o q => (sb.2 _ D.z1.symm).trans q
    · exact st2.1.at fun o q => (sb.2 _ D.z2.symm).trans q
    · exact st3.1.at fun o q => (sb.2 _ D.z3.symm).trans q
    · have hlt : c < s.heap.objs.size := by
        have e' : c = z ∨ c = TI ∨ c = TO ∨ c = i1 ∨ c = i2 ∨ c = i3 := by simpa using hcm
        rcases e' with q | q | q | q | q | q
        · rw [q]; exact hzl
        · rw [q]; exact Heap.lt_size hTI
        · rw [q]; exact Heap.lt_size hTO
        · rw [q]; obtain ⟨_, e1, _⟩ := h1; exact Heap.lt_size e1
        · rw [q]; obtain ⟨_, e2, _⟩ := h2; exact Heap.lt_size e2
        · rw [q]; obtain ⟨_, e3, _⟩ := h3; exact Heap.lt_size e3
      rw [upd_ne (Nat.ne_of_lt hlt)]
      exact (hf c hcm).1
  done := by
    intro X hP hw hK hc i pins s σ H E I hf st hg
    subst hP hw hK
    obtain ⟨hz, hTI, ⟨x0, y0, u0, hTO⟩, h1, h2, h3⟩ := st
    obtain ⟨xs, ys, zs, hqx, hqy, hqz, l1, l2, l3, hend⟩ := hg
    obtain ⟨it1, rv1, p1, _⟩ := I.tuple hqx
    obtain ⟨it2, rv2, p2, _⟩ := I.tuple hqy
    obtain ⟨it3, rv3, p3, _⟩ := I.tuple hqz
    have hh : X.A.in1.handled = none := by simp [I.ok.hd hc]
    have D1 := Draws.tuple (prog := X.prog) (w := X.w) hh i1 a (D.a i1 (by simp)) it1.toArray
    have D2 := Draws.tuple (prog := X.prog) (w := X.w) hh i2 b (D.b i2 (by simp)) it2.toArray
    have D3 := Draws.tuple (prog := X.prog) (w := X.w) hh i3 e (D.e i3 (by simp)) it3.toArray
    have k1 : it1.toArray.size = xs.length := by have := rv1.length; simp; omega
    have k2 : it2.toArray.size = ys.length := by have := rv2.length; simp; omega
    have k3 : it3.toArray.size = zs.length := by have := rv3.length; simp; omega
    exact wpAny_pyNext_zipD3_end D.sep D1 D2 D3 hz hTI hTO ⟨h1, p1⟩ ⟨h2, p2⟩ ⟨h3, p3⟩ (by omega) (by omega) (by omega) (by omega) fun h' tk hk => ⟨rfl, I.turnedL (t' := tk) (ch := [z, TI, TO, i1, i2, i3]) (fun c o hb q =>
      hk c o (fun q' => hb (by simp [q'])) (fun q' => hb (by simp [q'])) (fun q' => hb (by simp [q'])) (fun q' => hb (by simp [q'])) (fun q' => hb (by simp [q'])) q) hf⟩
  self := fun A i s Q E st h => wpAny_pyIter_zip st.1 h
theorem apart6_new {n a b e : Addr} (ha : a < n) (hb : b < n) (he : e < n) : Apart6 (n + 5) (n + 3) (n + 4) n (n + 1) (n + 2) a b e where
  TIz := by simp
  TOz := by simp
  TITO := by simp
  TI1 := Nat.ne_of_gt (Nat.lt_add_of_pos_right (by decide))
  TI2 := by simp
  TI3 := by simp
  TO1 := Nat.ne_of_gt (Nat.lt_add_of_pos_right (by decide))
  TO2 := by simp
  TO3 := by simp
  z1 := Nat.ne_of_gt (Nat.lt_add_of_pos_right (by decide))
  z2 := by simp
  z3 := by simp
  i12 := Nat.ne_of_lt (Nat.lt_add_of_pos_right (by decide))
  i13 := Nat.ne_of_lt (Nat.lt_add_of_pos_right (by decide))
  i23 := by simp
  a := fun c hc => by
    have e' : c = n + 5 ∨ c = n + 3 ∨ c = n + 4 ∨ c = n ∨ c = n + 1 ∨ c = n + 2 := by simpa using hc
    unfold Addr at *
    omega
  b := fun c hc => by
    have e' : c = n + 5 ∨ c = n + 3 ∨ c = n + 4 ∨ c = n ∨ c = n + 1 ∨ c = n + 2 := by simpa using hc
    unfold Addr at *
    omega
  e := fun c hc => by
    have e' : c = n + 5 ∨ c = n + 3 ∨ c = n + 4 ∨ c = n ∨ c = n + 1 ∨ c = n + 2 := by simpa using hc
    unfold Addr at *
    omega
def iZip3 (K : PySem.W.Frag) (ta : TA) : TI := fun σ H R => ta σ H fun vs H1 => ∃ a b e xs ys zs, vs = [.ref a, .ref b, .ref e] ∧ SqT K H1 a xs ∧ SqT K H1 b ys ∧ SqT K H1 e zs ∧ R (Itz3 K a b e) H1
theorem pi_zip3 {X : Cx} {e1 e2 e3 : Expr} {ta : TA} {p pos tpos : Pos} {elts : List Expr} {kk : Nat} (hg : Gl X "zip") (hm : X.mg "zip" = none) (ha : PA X [e1, e2, e3] ta)
    (hs : starEach [e1, e2, e3] X.env = (false, eval e1 X.env) :: starEach [e2, e3] X.env := by rfl) (hpl : (backTo pos (starEach [e2, e3] X.env)).any (·.1) = false := by rfl) :
    PI X (.Tuple elts kk tpos) (.Call (.Name "zip" p) [e1, e2, e3] [] pos) (iZip3 X.K ta) := by
  refine ⟨fun pins s σ H R I h => ?_⟩
  refine Call_ (ld_blt I hg hm PyProof.Rows.boot_zip (PyProof.Rows.callWith_type1 (thn (ha.run pos pins s σ H _ I h) fun us s1 ⟨vs, H1, I1, r1, q1⟩ => ?_) hs hpl))
  obtain ⟨a, b, e, xs, ys, zs, ex, hqx, hqy, hqz, q⟩ := q1
  subst ex
  cases r1 with
  | cons r rr =>
    cases rr with
    | cons r' rr =>
      cases rr with
      | cons r'' rr =>
        cases rr
        cases r
        cases r'
        cases r''
        obtain ⟨it1, rv1, p1, _⟩ := I1.tuple hqx
        obtain ⟨it2, rv2, p2, _⟩ := I1.tuple hqy
        obtain ⟨it3, rv3, p3, _⟩ := I1.tuple hqz
        have fresh6 : ∀ c, c ∈ [s1.heap.objs.size + 5, s1.heap.objs.size + 3, s1.heap.objs.size + 4, s1.heap.objs.size, s1.heap.objs.size + 1, s1.heap.objs.size + 2] → FpOk X pins H1 c := fun c hcm => by
          have e' : c = s1.heap.objs.size + 5 ∨ c = s1.heap.objs.size + 3 ∨ c = s1.heap.objs.size + 4 ∨ c = s1.heap.objs.size ∨ c = s1.heap.objs.size + 1 ∨ c = s1.heap.objs.size + 2 := by simpa using hcm
          have hle : s1.heap.objs.size ≤ c := by
            rcases e' with z | z | z | z | z | z <;> rw [z]
            · exact Nat.le_add_right _ _
            · exact Nat.le_add_right _ _
            · exact Nat.le_add_right _ _
            · exact Nat.le_refl _
            · exact Nat.le_add_right _ _
            · exact Nat.le_add_right _ _
          exact I1.fpOk hle (I1.hok.fresh hle)
        have lt : ∀ {l : Addr} {its : Array Value}, s1.heap.IsTuple l its → l < s1.heap.objs.size := fun ⟨_, ho, _⟩ => Heap.lt_size ho
        refine zip_begins3 (begins_tuple a it1.toArray) (begins_tuple b it2.toArray) (begins_tuple e it3.toArray) p1 p2 p3 fun h' hz hTI hTO g1 g2 g3 hsz hk => wpAny_pyIter_zip hz ?_
        have I2 : Inv X pins σ H1 { s1 with heap := h' } := I1.kept (t' := s1.toks) hk
        exact ⟨s1.heap.objs.size + 5, [s1.heap.objs.size + 5, s1.heap.objs.size + 3, s1.heap.objs.size + 4, s1.heap.objs.size, s1.heap.objs.size + 1, s1.heap.objs.size + 2], _, _, H1, rfl, I2, turn_zip3 (apart6_new (lt p1) (lt p2) (lt p3)),
          ⟨hz, hTI, ⟨_, _, _, hTO⟩, ⟨_, g1, rfl, rfl⟩, ⟨_, g2, rfl, rfl⟩, ⟨_, g3, rfl, rfl⟩⟩, fresh6, q⟩
def zip3L : List D → List D → List D → List D
  | d :: ds, e :: es, f :: fs => .tuple [d, e, f] :: zip3L ds es fs
  | _, _, _ => []
theorem zip3L_get : ∀ {xs ys zs : List D} {i : Nat} {d : D}, (zip3L xs ys zs)[i]? = some d → ∃ e f g, d = .tuple [e, f, g] ∧ xs[i]? = some e ∧ ys[i]? = some f ∧ zs[i]? = some g
  | [], ys, zs, i, d, h => by unfold zip3L at h; simp at h
  | x :: xs, [], zs, i, d, h => by unfold zip3L at h; simp at h
  | x :: xs, y :: ys, [], i, d, h => by unfold zip3L at h; simp at h
  | x :: xs, y :: ys, z :: zs, 0, d, h => by
    unfold zip3L at h
    cases h
    exact ⟨x, y, z, rfl, rfl, rfl, rfl⟩
  | x :: xs, y :: ys, z :: zs, i + 1, d, h => by
    unfold zip3L at h
    exact zip3L_get (xs := xs) (ys := ys) (zs := zs) (i := i) h
theorem zip3L_len : ∀ xs ys zs : List D, (zip3L xs ys zs).length ≤ xs.length ∧ (zip3L xs ys zs).length ≤ ys.length ∧ (zip3L xs ys zs).length ≤ zs.length ∧ ((zip3L xs ys zs).length = xs.length ∨ (zip3L xs ys zs).length = ys.length ∨ (zip3L xs ys zs).length = zs.length)
  | [], ys, zs => by unfold zip3L; simp
  | x :: xs, [], zs => by unfold zip3L; simp
  | x :: xs, y :: ys, [] => by unfold zip3L; simp
  | x :: xs, y :: ys, z :: zs => by
    have := zip3L_len xs ys zs
    unfold zip3L
    simp only [List.length_cons]
    omega
theorem zip3L_cons {d e f : D} {ds es fs : List D} : zip3L (d :: ds) (e :: es) (f :: fs) = .tuple [d, e, f] :: zip3L ds es fs := rfl
theorem zip3L_nil : zip3L [] [] [] = [] := rfl
def zip3D (ds : List D) (Q : List D → Prop) : Prop := match ds with
  | [.tuple xs, .tuple ys, .tuple zs] => Q (zip3L xs ys zs)
  | _ => False
def dZip3 (ml : DTA) (en : En) (Q : List D → Prop) : Prop := ml en fun ds => zip3D ds Q
theorem zip3D_tup {xs ys zs : List D} {Q : List D → Prop} : zip3D [.tuple xs, .tuple ys, .tuple zs] Q = Q (zip3L xs ys zs) := rfl
section
variable {K : PySem.W.Frag} {wo : Option (Addr × Addr)} {F : Hp} {p q r : Addr} {xs ys zs : List V} {ds es fs : List D}
theorem dwalk_zip3 (hp : SqT K F p xs) (hq : SqT K F q ys) (hr : SqT K F r zs) (a : Reps K F xs ds) (b : Reps K F ys es) (c : Reps K F zs fs) : DWalk K wo (Itz3 K p q r) F (zip3L ds es fs) where
  go := fun i d F' H hF x e => by
    obtain ⟨d1, d2, d3, rfl, e1, e2, e3⟩ := zip3L_get e
    obtain ⟨v1, h1, _⟩ := a.get e1
    obtain ⟨v2, h2, _⟩ := b.get e2
    obtain ⟨v3, h3, _⟩ := c.get e3
    exact ⟨xs, ys, zs, v1, v2, v3, sqT_mono x.fh (sqT_mono hF hp), sqT_mono x.fh (sqT_mono hF hq), sqT_mono x.fh (sqT_mono hF hr), h1, h2, h3⟩
  yld := fun i d F' H x H' hF ex e y => by
    obtain ⟨d1, d2, d3, rfl, e1, e2, e3⟩ := zip3L_get e
    obtain ⟨T, w1, w2, w3, rfl, hT, rfl, g1, g2, g3⟩ := y
    obtain ⟨v1, h1, r1⟩ := a.get e1
    obtain ⟨v2, h2, r2⟩ := b.get e2
    obtain ⟨v3, h3, r3⟩ := c.get e3
    have q1 := g1 xs (sqT_mono ex.fh (sqT_mono hF hp))
    have q2 := g2 ys (sqT_mono ex.fh (sqT_mono hF hq))
    have q3 := g3 zs (sqT_mono ex.fh (sqT_mono hF hr))
    rw [h1] at q1
    rw [h2] at q2
    rw [h3] at q3
    cases q1
    cases q2
    cases q3
    obtain ⟨y1, y2⟩ := newTup (c := ⟨wo, F', H⟩) ex hT (.cons (Rep.mono hF _ _ r1) (.cons (Rep.mono hF _ _ r2) (.cons (Rep.mono hF _ _ r3) .nil))) (by show 3 ≤ sizeLine; decide)
    exact ⟨_, y1, y2⟩
  stop := fun F' H hF x => by
    have := zip3L_len ds es fs
    have l1 := a.len
    have l2 := b.len
    have l3 := c.len
    exact ⟨xs, ys, zs, sqT_mono x.fh (sqT_mono hF hp), sqT_mono x.fh (sqT_mono hF hq), sqT_mono x.fh (sqT_mono hF hr), by omega, by omega, by omega, by omega⟩
end
theorem di_zip3 {X : Cx} {c : Ct} {a b d : Expr} {ml : DTA} {p pos tpos : Pos} {elts : List Expr} {kk : Nat} (hm : X.mg "zip" = none) (ha : DA X c [a, b, d] ml) (hg : Gl X "zip" := by rfl) (hs : starEach [a, b, d] X.env = (false, eval a X.env) :: starEach [b, d] X.env := by rfl) (hpl : (backTo pos (starEach [b, d] X.env)).any (·.1) = false := by rfl) :
    DI X c (.Tuple elts kk tpos) (.Call (.Name "zip" p) [a, b, d] [] pos) true (dZip3 ml) := by
  refine ⟨PI.imp (pi_zip3 hg hm ha.run hs hpl) fun σ H Q h => ?_⟩
  obtain ⟨F, en, R, r, h, k⟩ := h
  refine ⟨F, en, _, r, h, fun ds hd vs F' H' x rv _ => ?_⟩
  unfold zip3D at hd
  split at hd
  · obtain ⟨v, u, t, rfl, r1, r2, r3⟩ := rv.three
    obtain ⟨p1, xs, rfl, g1, g2, g3⟩ := r1.tupI
    obtain ⟨p2, ys, rfl, k1, k2, k3⟩ := r2.tupI
    obtain ⟨p3, zs, rfl, j1, j2, j3⟩ := r3.tupI
    exact ⟨p1, p2, p3, xs, ys, zs, rfl, sqT_mono x.fh g1, sqT_mono x.fh k1, sqT_mono x.fh j1, k _ hd _ F' H' x (dwalk_zip3 g1 k1 j1 g2 k2 j2) fun _ => Nat.le_trans (zip3L_len _ _ _).1 g3⟩
  · exact hd.elim
end Lay
namespace Lay
open PySem PySem.Spec L2 RZ
open PyProof.Rows hiding St
def gTl (n : Nat) (gs : DTGs) (d : D) (en : En) (R : En → Prop) : Prop := onLst d fun ds => ds.length = n ∧ gs ds en R
theorem dg_unl {X : Cx} {c : Ct} {es : List Expr} {pos : Pos} {k : Nat} {gs : DTGs} {sl : List Nat} {n : Nat} (hc : X.calm = true) (h : DGs X c es sl gs) (hn : (assignEach es X.env).length = n := by rfl) (hst : (assignEach es X.env).findIdx? (·.1) = none := by rfl) : DG X c (.Tuple es k pos) sl (gTl n gs) := by
  refine ⟨PG.imp (pg_unl hc h.run hn hst) fun v σ H Q h => ?_⟩
  obtain ⟨F, en, d, R, r, rv, h, k⟩ := h
  unfold gTl onLst at h
  split at h
  · rename_i ds
    obtain ⟨p, xs, rfl, g1, g2, g3⟩ := rv.lstI
    exact ⟨p, xs, rfl, SqL.of (r.fh _ _ g1), by rw [g2.len]; exact h.1, F, en, ds, R, r, g2, h.2, k⟩
  · exact h.elim
def dAugS (i : Nat) (m mv : DTE) (R : DEnds) (en : En) : Prop := onOwn (gt en i) fun xs => m en fun k => onInt k fun k => 0 ≤ k ∧ ∃ a, xs[k.toNat]? = some (.int a) ∧ mv en fun d => onInt d fun y => R.nx (en.set i (.own (xs.set k.toNat (.int (a + y)))))
def rGetO : V → V → Hp → VK → Prop := fun o i H Q => ∃ p xs k v, o = .ref p ∧ i = .int k ∧ H p = some (.lst xs) ∧ 0 ≤ k ∧ xs[k.toNat]? = some v ∧ Q v H
theorem get_own {X : Cx} : PGet X rGetO := by
  intro pins s σ H o i ov iv Q I ro ri h
  obtain ⟨p, xs, k, z, rfl, rfl, hp, h0, he, q⟩ := h
  cases ro
  obtain ⟨t, rfl⟩ := ri
  obtain ⟨its, r, pl, hz⟩ := I.list (SqL.of hp)
  obtain ⟨w, ew, rw'⟩ := r.get he
  have hl := r.length
  have hj := (List.getElem?_eq_some_iff.mp he).1
  have hn := line63
  refine wpAny_getItem_list pl.isList h0 (by omega) (by simpa using ew) ⟨z, H, I, rw', q⟩
section
variable {X : Cx} {c : Ct} {e b : Expr} {m mv : DTE} {pos : Pos}
theorem saugS (i : Nat) {x : Str} {px p2 : Pos} (hi : DE X c b m) (hv : DE X c e mv) (hN : X.N[i]? = some x := by rfl) (hvis : Vis X.env.scope x := by first | exact Or.inl rfl | exact Or.inr (Or.inl rfl) | exact Or.inr (Or.inr rfl)) (hd : (x == ("__debug__" : Str)) = false := by decide) (hcd : (x == ("__classdict__" : Str)) = false := by decide)
    (ha : ∀ ov iv new, augStore b ov iv new = (do holding [new, ov, iv] (setItem ov iv new); release [new, ov, iv] []; pure .next) := by intros; rfl) :
    DS X c (.AugAssign (.Subscript (.Name x px) b p2) .Add e pos) (dAugS i m mv) := by
  refine ⟨PS.imp (ps_augS (pe_var hN hvis hd hcd) hi.run get_own hv.run ip_add set_list ha) fun D σ H h => ?_⟩
  obtain ⟨F, en, R, r, h, k⟩ := h
  unfold dAugS onOwn at h
  split at h
  · rename_i xs hg
    have hen := gt_get hg (fun z => nomatch z)
    obtain ⟨ov, e1, p, vs, e2, e3, e4, e5⟩ := r.sl i _ hen
    subst e2
    have ha : ownAt σ en i p := ⟨e1, _, hen, rfl⟩
    refine ⟨_, e1, F, en, _, r, h, fun kd hk kv F2 H2 x2 rk => ?_⟩
    cases kd with
    | int n =>
      cases rk
      obtain ⟨n0, z, hz, hk⟩ := hk
      have g2 := r.grow x2
      have e3' := x2.hh _ _ e3 (r.notW ha)
      have e4' := Reps.mono x2.ff _ _ e4
      obtain ⟨v, hv1, rv⟩ := e4'.get hz
      cases rv
      refine ⟨p, vs, n, _, rfl, rfl, e3', n0, hv1, F2, en, _, g2, hk, fun yd hy yv F3 H3 x3 ry => ?_⟩
      cases yd with
      | int y =>
        cases ry
        have g3 := g2.grow x3
        have e3'' := x3.hh _ _ e3' (g2.notW ha)
        have e4'' := Reps.mono x3.ff _ _ e4'
        have hl : n.toNat < vs.length := (List.getElem?_eq_some_iff.mp hv1).1
        have hj : ixN vs.length n = some n.toNat := by
          unfold ixN
          rw [if_pos n0, if_pos (by omega)]
        refine ⟨z, y, rfl, rfl, p, vs, n, n.toNat, rfl, rfl, e3'', hj, ?_⟩
        refine k.nx _ _ F3 _ hy (g3.turn ha ⟨p, _, rfl, upd_same, Reps.setD (.int _) e4'', ?_⟩) (fun b o q => x3.ff _ _ (x2.ff _ _ q))
        rw [List.length_set]
        exact e5
      | _ => exact False.elim hy
    | _ => exact False.elim hk
  · exact h.elim
end
end Lay
namespace Lay
open PySem PySem.Spec L2 SrtO
open PyProof.Rows hiding St
/-- few distinct ones -/
def FewK (ks : List (Addr × List Int)) : Prop := ∀ L : List (List Int), L.Nodup → (∀ k ∈ L, ∃ p ∈ ks, p.2 = k) → L.length ≤ 62
abbrev bareT (w : World) : Obj := { cls := .type "set", dict := none, data := .set #[] 0 (.fresh 0 0 (!w.params.followText "set-order")) }
section
variable {P : Program} {w : World} {A : Around} {E : Value → Shared → Prop} {s : Shared}
/-- what stands of the set after i turns -/
structure SetAt (P : Program) (w : World) (h0 : Heap) (ks : List (Addr × List Int)) (S : Addr) (i : Nat) (h : Heap) : Prop where
  old : ∀ b o, h0.get? b = some o → h.get? b = some o
  is : ∃ L es ep t, SetTR P w h S L es ep t ∧ Got ks i L
theorem SetAt.moved {h0 h h' : Heap} {ks : List (Addr × List Int)} {S : Addr} {i : Nat} {wr : List Addr} (x : SetAt P w h0 ks S i h) (hk : ∀ p ∈ ks, IsT P w h0 p.2 p.1) (hm : ∀ b o, b ∉ wr → h.get? b = some o → h'.get? b = some o) (hS : S ∉ wr) (hw : ∀ b ∈ wr, h0.get? b = none) : SetAt P w h0 ks S i h' := by
  obtain ⟨old, L, es, ep, t, R, g⟩ := x
  have old' : ∀ b o, h0.get? b = some o → h'.get? b = some o := fun b o e => hm b o (fun z => by rw [hw b z] at e; cases e) (old b o e)
  exact ⟨old', L, es, ep, t, R.keep (fun o e => hm S o hS e) fun p hp => isT_keep (hk p (List.mem_of_mem_take (g.sub p hp))) old', g⟩
theorem SetAt.few {h0 h : Heap} {ks : List (Addr × List Int)} {i : Nat} {S : Addr} {L : List (Addr × List Int)} {es : Array (Int × Value)} {ep : Nat} {t : SetTable} (R : SetTR P w h S L es ep t) (g : Got ks i L) (f : FewK ks) : L.length + 1 < 64 := by
  have := f (L.map (·.2)) R.nd fun k hk => by
    obtain ⟨p, hp, rfl⟩ := List.mem_map.mp hk
    exact ⟨p, List.mem_of_mem_take (g.sub p hp), rfl⟩
  rw [List.length_map] at this
  omega
theorem few_loop {I : Addr} {fp wr : List Addr} {G : Array GenState → Array GenState → Prop} {n : Nat} {Pv : Nat → Value → Prop} {St : Nat → Shared → Prop} {R : Result → Shared → Prop}
    (W : WalksS P w A.in1 I fp wr G n Pv St) {S : Addr} (hSf : S ∉ fp) {ks : List (Addr × List Int)} (hn : n = ks.length) (few : FewK ks) (hval : ∀ i v, Pv i v → ∃ p, ks[i]? = some p ∧ v = .ref p.1)
    {h0 : Heap} (hk : ∀ p ∈ ks, IsT P w h0 p.2 p.1) (hS0 : h0.get? S = none) (hw0 : ∀ b ∈ wr, h0.get? b = none) (hu : A.in1.units < cLine) :
    ∀ (k i : Nat) (s : Shared), i + k = n → St i s → SetAt P w h0 ks S i s.heap →
      (∀ s', Moved (S :: wr) G s s' → SetAt P w h0 ks S n s'.heap → R (.ok (.ret .none)) s') →
      codeAny (model P w) A (.builtin "set.update.loop" ⟨[.ref S, .ref I], []⟩) R s := by
  have hSw : S ∉ wr := fun h => hSf (W.sub _ h)
  have hsub : ∀ b ∈ wr, b ∈ S :: wr := fun b hb => List.mem_cons_of_mem _ hb
  intro k
  induction k with
  | zero =>
    intro i s hi hst hx hR
    obtain rfl : i = n := hi
    refine codeAny_builtin F.entry_set_update_loop ?_
    rw [Around.under_plainId F.plain_set_update_loop _]
    show wpAny _ A.in1 (pyNext (.ref I) >>= _) _ _ s
    exact wpAny_bind (W.done s _ _ hst fun s' hm => wpAny_pure (hR s' (hm.mono hsub) (hx.moved hk hm.heap hSw hw0)))
  | succ k ih =>
    intro i s hi hst hx hR
    refine codeAny_builtin F.entry_set_update_loop ?_
    rw [Around.under_plainId F.plain_set_update_loop _]
    show wpAny _ A.in1 (pyNext (.ref I) >>= _) _ _ s
    refine wpAny_bind (W.item i s _ _ (by omega) hst fun v s' hP hst' hm => ?_)
    obtain ⟨p, hp, rfl⟩ := hval i v hP
    obtain ⟨old, L, es, ep, t, RS, g⟩ := hx.moved hk hm.heap hSw hw0
    have hxp : IsT P w s'.heap p.2 p.1 := isT_keep (hk p (List.mem_of_getElem? hp)) old
    show wpAny _ A.in1 (holding [Value.ref p.1] (setAdd S (.ref p.1)) >>= _) _ _ s'
    refine wpAny_bind (wpAny_holding ?_)
    unfold setAdd
    refine wpAny_holding (wpAny_bind (wpAny_pyHash_tuple hu hxp ?_))
    refine add_at (s := { s' with toks := s'.toks + (p.2.length + 1) }) RS hxp hu (SetAt.few (h0 := h0) RS g few) fun b h' L' es' ep' t' hsb RS' c1 c2 => ?_
    have same : ∀ b o, b ≠ S → s'.heap.get? b = some o → h'.get? b = some o := fun b o hb e => (hsb.2 b hb).trans e
    have hx' : SetAt P w h0 ks S (i + 1) h' := by
      refine ⟨fun b o e => same b o (fun z => by rw [z, hS0] at e; cases e) (old b o e), L', es', ep', t', RS', ?_⟩
      rcases Classical.em (p.2 ∈ L.map (·.2)) with c | c
      · rw [c1 c]; exact g.same hp c
      · exact g.more hp (c2 c)
    refine wpAny_pure ⟨plainId_quiet F.plain_set_update_loop _, ih (i + 1) _ (by omega) (W.frame _ s' _ _ hst' (Nat.le_add_right _ _) fun b hb o e => same b o (fun z => hSf (z ▸ hb)) e) hx' fun s'' hm'' hx'' => ?_⟩
    exact hR s'' (Moved.trans W.gtrans ((hm.mono hsub).then_heap (Nat.le_add_right _ _) fun b o hb e => same b o (fun z => hb (z ▸ List.mem_cons_self)) e) hm'') hx''
set_option maxHeartbeats 3200000 in
theorem set_of_few {l : Addr} {vs : Array Value} (ks : List (Addr × List Int)) {Q : Value → Shared → Prop} (hA : A.handled = none) (hl : s.heap.IsList l vs) (hv : vs.toList = ks.map fun p => Value.ref p.1) (hk : ∀ p ∈ ks, IsT P w s.heap p.2 p.1) (few : FewK ks) (hu : A.units + 3 < cLine)
    (k : ∀ (g : Heap) (tk : Nat), SetAt P w s.heap ks s.heap.objs.size ks.length g → Q (.ref s.heap.objs.size) { s with heap := g, toks := tk }) :
    wpAny (model P w) A (call (.type "set") [.ref l]) Q E s := by
  have hn : vs.size = ks.length := by
    have q := congrArg List.length hv
    rwa [Array.length_toList, List.length_map] at q
  obtain ⟨mc, mt, hmro⟩ := F.called_set.mro
  have m1 := F.called_set.made
  have m2 := F.called_set.sub
  refine wpAny_call (codeAny_of_tree (show wpAny _ _ (callAny (.type "set") _) _ _ _ from wpAny_pure ⟨Code.quiet_builtin _ (by decide +kernel), codeAny_builtin F.entry_type_call ?_⟩))
  rw [Around.under_plain (weight_type_call_type "set" [.ref l] []) rfl]
  have m3 := F.called_set.notType
  have m4 := F.called_set.canCreate
  have m5 := F.typeCall_set_1 (.ref l)
  repeat (any_goals (first | assumption | wp_step))
  refine codeAny_mono (code_set_led1 (.ref l) (E := E) (Q₁ := fun x s₁ => x = .ref s.heap.objs.size ∧ s₁ = { s with heap := s.heap.push (bareT w) }) ⟨rfl, rfl⟩) fun r s₁ hr => ?_
  cases r with
  | error e => exact hr
  | ok fl =>
    cases fl with
    | ret x =>
      obtain ⟨rfl, rfl⟩ := hr
      have at0 : (s.heap.push (bareT w)).get? s.heap.objs.size = some (bareT w) := Heap.get?_push_size _ rfl
      have ty0 : Shared.TypeIs { s with heap := s.heap.push (bareT w) } (.ref s.heap.objs.size) "set" := ⟨_, at0, rfl⟩
      have m6 := F.called_set.init.lookup
      have m7 := F.called_set.init.bind (.ref s.heap.objs.size)
      repeat (any_goals (first | assumption | wp_step))
      refine codeAny_mono (codeAny_call_builtin (R := wants (fun r s₂ => r = .none ∧ ∃ g tk, s₂ = { s with heap := g, toks := tk } ∧ SetAt P w s.heap ks s.heap.objs.size ks.length g) E) F.called_set.init.plain F.entry_set_init (check_set_init_1 ty0 ?_)) fun r₂ s₂ hr₂ => ?_
      · obtain ⟨⟨c0, d0, x0, y0⟩, ho, hc0, n0, hd0⟩ := hl
        simp only at hc0 hd0
        subst hc0; subst hd0
        have ho' : (s.heap.push (bareT w)).get? l = some { cls := .type "list", dict := d0, data := .seq vs n0, slots := y0 } := Heap.get?_push_of_some _ ho
        have m8 := F.sub_list_set
        have m9 := F.sub_list_frozenset
        have nodict : (Value.type "list" == Value.type "dict") = false := by decide
        have isl : (s.heap.push (bareT w)).IsList l vs := ⟨_, ho', rfl, n0, rfl⟩
        unfold Builtin.«set.__init__» noKeywords Builtin.Frozenset.updateFrom
        generalize hpi : pyIter = pi
        wp_walk
        subst hpi
        refine wpAny_pyIter_list isl (wpAny_bind (wpAny_runValue ?_))
        have ls : l < s.heap.objs.size := Heap.lt_size ho
        have hA3 : A.in1.in1.in1.handled = none := by simp [hA]
        have sz : (s.heap.push (bareT w)).objs.size = s.heap.objs.size + 1 := Heap.size_push ..
        have l1 : l ≠ (s.heap.push (bareT w)).objs.size := by rw [sz]; exact Nat.ne_of_lt (Nat.lt_succ_of_lt ls)
        have nof : s.heap.objs.size ∉ [(s.heap.push (bareT w)).objs.size, l] := by
          intro z
          rw [sz] at z
          rcases List.mem_cons.mp z with z | z
          · exact Nat.ne_of_lt (Nat.lt_succ_self _) z
          · exact Nat.ne_of_gt ls (List.mem_singleton.mp z)
        have nothing : ∀ b, s.heap.objs.size ≤ b → s.heap.get? b = none := fun b hb => by
          cases q : s.heap.get? b with
          | none => rfl
          | some o => exact absurd (Nat.lt_of_lt_of_le (Heap.lt_size q) hb) (Nat.lt_irrefl _)
        have each : ∀ (i : Nat) (v : Value), vs[i]? = some v → ∃ p, ks[i]? = some p ∧ v = .ref p.1 := fun i v e => by
          have q : vs.toList[i]? = some v := by rw [Array.getElem?_toList]; exact e
          rw [hv, List.getElem?_map] at q
          obtain ⟨p, e1, e2⟩ := Option.map_eq_some_iff.mp q
          exact ⟨p, e1, e2.symm⟩
        refine few_loop ((Walks.list hA3 _ l l1 vs).toS) nof hn few each hk (nothing _ (Nat.le_refl _)) (fun b hb => nothing b (by rw [List.mem_singleton.mp hb, sz]; exact Nat.le_succ _)) hu vs.size 0 _ (Nat.zero_add _)
          ⟨⟨_, Heap.get?_push_size _ rfl, rfl, rfl⟩, isl.push _⟩ ⟨fun b o e => Heap.get?_push_of_some _ (Heap.get?_push_of_some _ e), [], #[], 0, _, setTR_fresh (Heap.get?_push_of_some _ at0), Got.zero ks⟩ ?_
        rintro ⟨g, ge, dr, tk, os⟩ hm hx
        obtain rfl : ge = s.gens := hm.gens
        obtain rfl : dr = s.drawn := hm.drawn
        obtain rfl : os = s.os := hm.os
        show wpAny _ _ _ _ _ _
        rw [hn] at hx
        exact wpAny_pure (show wpAny _ _ (ret Value.none) _ _ _ from wpAny_pure ⟨rfl, g, tk, rfl, hx⟩)
      · cases r₂ with
        | error e => exact hr₂
        | ok fl₂ =>
          cases fl₂ with
          | ret r =>
            obtain ⟨rfl, g, tk, rfl, hx⟩ := hr₂
            repeat (any_goals (first | assumption | wp_step))
            exact k _ _ hx
          | _ => exact hr₂.elim
    | _ => exact hr.elim
end
end Lay
namespace Lay
open PySem PySem.Spec L2 SrtO
open PyProof.Rows hiding St
section
variable {P : Program} {w : World} {A : Around} {E : Value → Shared → Prop} {s : Shared}
def refA : Value → Addr
  | .ref a => a
  | _ => default
theorem sorted_of_few {a : Addr} {L : List (Addr × List Int)} {es : Array (Int × Value)} {ep : Nat} {t : SetTable} {d : Nat} {Q : Value → Shared → Prop} (R : SetTR P w s.heap a L es ep t) (hA : A.handled = none) (hd : 1 ≤ d) (hL : ∀ p ∈ L, p.2.length = d)
    (k : ∀ s' p (out : Array Value) (c : Nat) (L' : List (Addr × List Int)), (∀ b o, s.heap.get? b = some o → s'.heap.get? b = some o) → s'.gens = s.gens → s'.os = s.os → s.heap.objs.size ≤ p →
      s'.heap.get? p = some (seqObj "list" out c) → out.toList = L'.map (fun q => Value.ref q.1) → L'.Perm L → L'.Pairwise (fun x y => lexI y.2 x.2 = false) → Q (.ref p) s') :
    wpAny (model P w) A (call (.builtin "sorted") [.ref a]) Q E s := by
  obtain ⟨o, ho, hex, hdt⟩ := R.ob
  refine Calls.call_function_entry kind_sorted plain_sorted entry_sorted (args_sorted1 _) ?_
  unfold Builtin.«sorted»
  have hsz := R.size
  have hfew := R.few
  refine wpAny_bind (m := checkCount "sorted" 1 1 _) (wpAny_pure (wpAny_bind (collect_set (A := A.in1) hA ⟨o, ho, hex.1, hdt⟩ R.fits (by unfold scanBound; omega) R.tab.ris R.led fun s1 vs kp gz gg go pm => ?_)))
  have hes : es.toList.map (·.2) = L.map fun q => Value.ref q.1 := by
    rw [R.rows]
    unfold rowsOf
    rw [List.map_map]
    rfl
  rw [hes] at pm
  have vl : vs.length = L.length := by rw [pm.length_eq, List.length_map]
  have vz : vs.length ≤ sizeLine := by rw [sizeLine_eq]; omega
  refine wpAny_bind (wpAny_newList ?_ vz)
  have at1 : (s1.heap.push (seqObj "list" vs.toArray 0)).get? s1.heap.objs.size = some (seqObj "list" vs.toArray 0) := Heap.get?_push_size _ rfl
  -- the keys, read off the heap
  let key : Value → List Int := fun v => if (TS.intsOf s.heap v).length = d then TS.intsOf s.heap v else List.replicate d 0
  have hk : ∀ v, (key v).length = d := fun v => by
    show (if _ then _ else _ : List Int).length = d
    split
    · assumption
    · exact List.length_replicate
  have keyL : ∀ p ∈ L, key (.ref p.1) = p.2 := fun p hp => by
    have := (tupInts_of (P := P) (w := w) (R.tup p hp)).ints
    show (if _ then _ else _ : List Int) = _
    rw [this, if_pos (hL p hp)]
  have fromL : ∀ v ∈ vs, ∃ p ∈ L, v = Value.ref p.1 := fun v hv => by
    obtain ⟨p, hp, e⟩ := List.mem_map.mp (pm.mem_iff.mp hv)
    exact ⟨p, hp, e.symm⟩
  refine wpAny_bind (wpAny_holding (wpAny_call_entry slot_list_sort ⟨_, at1, rfl⟩ entry_list_sort (list_sort_ord (swo_lexI hk) at1 vz (fun h2 => tups_sortableO (s := { s1 with heap := s1.heap.push (seqObj "list" vs.toArray 0) }) (by omega) hd hk (fun v hm => ?_) fun o e => ?_) fun out h1 h2 => ⟨_, rfl, ?_⟩) (args_list_sort _)))
  · obtain ⟨p, hp, rfl⟩ := fromL v hm
    rw [keyL p hp]
    exact tupInts_of (P := P) (w := w) (isT_keep (R.tup p hp) fun b u e => Heap.get?_push_of_some _ (kp b u e))
  · have e' : some o = some (seqObj "list" vs.toArray 0) := e.symm.trans at1
    cases e'
    intro c
    exact absurd (Value.type.inj c) (by decide)
  · obtain ⟨c, hc⟩ := sortedHeap_at (vs := vs) (out := out.toArray) at1
    let f : Value → Addr × List Int := fun v => (refA v, key v)
    have fL : (L.map fun q => Value.ref q.1).map f = L := by
      rw [List.map_map]
      conv => rhs; rw [← List.map_id L]
      exact List.map_congr_left fun p hp => Prod.ext rfl (keyL p hp)
    have po : out.Perm (L.map fun q => Value.ref q.1) := h2.perm.trans pm
    have pl : (out.map f).Perm L := by
      have := po.map f
      rwa [fL] at this
    have back : (out.map f).map (fun q => Value.ref q.1) = out := by
      rw [List.map_map]
      conv => rhs; rw [← List.map_id out]
      refine List.map_congr_left fun v hv => ?_
      obtain ⟨p, _, rfl⟩ := fromL v (h2.perm.mem_iff.mp hv)
      rfl
    refine wpAny_pure ⟨_, rfl, k _ s1.heap.objs.size out.toArray c (out.map f) (fun b u e => ?_) gg go gz hc (by rw [back]) pl (by rw [List.pairwise_map]; exact h1)⟩
    have q := kp b u e
    have lt := Heap.lt_size q
    show (sortedHeap (s1.heap.push (seqObj "list" vs.toArray 0)) s1.heap.objs.size vs out.toArray).get? b = some u
    rw [sortedHeap_old (Nat.ne_of_lt lt) (by rw [size_push']; exact Nat.lt_succ_of_lt lt)]
    exact Heap.get?_push_of_some _ q
end
def rSetFew (K : PySem.W.Frag) (P : Program) (w : World) : List V → Hp → VK → Prop := fun xs H Q => ∃ (l : Addr) (ks : List (Addr × List Int)), xs = [V.ref l] ∧ SqL K H l (ks.map fun p => V.ref p.1) ∧ (∀ p ∈ ks, SqT K H p.1 (p.2.map V.int)) ∧ FewK ks ∧
  ∀ a L, H a = none → (∀ p ∈ L, p ∈ ks) → (∀ p ∈ ks, p.2 ∈ L.map (·.2)) → Q (.ref a) (upd H a (SetTO P w a L))
theorem cr_setFew {X : Cx} (hc : X.calm = true) (hu : X.A.units + 64 < cLine) : CallR X (.type "set") (rSetFew X.K X.prog X.w) := by
  intro pins s σ H xs us Q I r h
  obtain ⟨l, ks, rfl, hl, hk, hf, q⟩ := h
  rw [Vals.ref1 r]
  obtain ⟨its, rv, pl, hz⟩ := I.list hl
  refine set_of_few (P := X.prog) (w := X.w) ks (I.ok.hd hc) pl.isList (by simpa using refs_of_vals rv) (fun p hp => I.isT (hk p hp)) hf (by omega) fun g tk x => ?_
  obtain ⟨old, L, es, ep, t, R, got⟩ := x
  refine ⟨.ref s.heap.objs.size, upd H s.heap.objs.size (SetTO X.prog X.w s.heap.objs.size L), I.laid (t' := tk) old (Nat.le_refl _) (setTO_new R.t0), rfl, q _ L (I.hok.fresh (Nat.le_refl _)) (fun p hp => List.mem_of_mem_take (got.sub p hp)) fun p hp => ?_⟩
  exact got.all p (by rw [List.take_length]; exact hp)
def rSortFew (K : PySem.W.Frag) (P : Program) (w : World) : List V → Hp → VK → Prop := fun vs H Q => ∃ (a : Addr) (L : List (Addr × List Int)) (d : Nat), vs = [V.ref a] ∧ H a = some (SetTO P w a L) ∧ (∀ p ∈ L, SqT K H p.1 (p.2.map V.int)) ∧ 1 ≤ d ∧ (∀ p ∈ L, p.2.length = d) ∧
  ∀ (L' : List (Addr × List Int)) (p : Addr), L'.Perm L → (L'.map (·.2)).Nodup → L'.Pairwise (fun x y => lexI y.2 x.2 = false) → H p = none → Q (.ref p) (upd H p (.lst (L'.map fun q => V.ref q.1)))
theorem cr_sortFew {X : Cx} (hc : X.calm = true) : CallR X (.builtin "sorted") (rSortFew X.K X.prog X.w) := by
  intro pins s σ H vs us Q I r h
  obtain ⟨a, L, d, rfl, ha, hk, hd, hL, q⟩ := h
  have R0 : SetT0 X.prog X.w s.heap a L := (I.hok a _ ha).1
  obtain ⟨es, ep, t, R⟩ := R0.full fun p hp => I.isT (hk p hp)
  rw [Vals.ref1 r]
  refine sorted_of_few R (I.ok.hd hc) hd hL fun s' p out c L' kp gg go hp hg ho pm pw => ?_
  have len : (L'.map fun q => V.ref q.1).length ≤ sizeLine := by
    have := R.few
    rw [List.length_map, pm.length_eq, sizeLine_eq]
    omega
  have hv : Vals (L'.map fun q => V.ref q.1) out.toList := by rw [ho]; exact vals_of_refs L'
  have J : Inv X pins σ (upd H p (.lst (L'.map fun q => V.ref q.1))) { s with heap := s'.heap, gens := s'.gens, drawn := s'.drawn, toks := s'.toks } :=
    I.call (ch := []) (Un.laid kp hp (I.hok.fresh hp)) (I.hok.laid kp hp ⟨len, out.toList, c, hv, hg⟩) (by rw [gg]; exact I.bare) (fun _ z => nomatch z)
  have e : s' = { s with heap := s'.heap, gens := s'.gens, drawn := s'.drawn, toks := s'.toks } := by
    cases s'
    cases s
    cases go
    rfl
  rw [e]
  exact ⟨.ref p, _, J, rfl, q L' p pm ((pm.map (·.2)).nodup_iff.mpr R.nd) pw (I.hok.fresh hp)⟩
/-- sorted(set(xs)), xs a list of tuples of d ints, few of them distinct -/
def setSortTD : DC := fun ds Q => match ds with
  | [.list xs] => ∃ (ns : List (List Int)) (d : Nat), xs = ns.map tupD ∧ 1 ≤ d ∧ (∀ n ∈ ns, n.length = d) ∧ (∀ ms : List (List Int), ms.Nodup → (∀ m ∈ ms, m ∈ ns) → ms.length ≤ 62) ∧
      ∀ ms : List (List Int), ms.Nodup → (∀ m, m ∈ ms ↔ m ∈ ns) → ms.Pairwise (fun x y => lexI y x = false) → Q (.list (ms.map tupD))
  | _ => False
theorem setSortTD_lst {xs : List D} {Q : D → Prop} : setSortTD [.list xs] Q = ∃ (ns : List (List Int)) (d : Nat), xs = ns.map tupD ∧ 1 ≤ d ∧ (∀ n ∈ ns, n.length = d) ∧ (∀ ms : List (List Int), ms.Nodup → (∀ m ∈ ms, m ∈ ns) → ms.length ≤ 62) ∧
      ∀ ms : List (List Int), ms.Nodup → (∀ m, m ∈ ms ↔ m ∈ ns) → ms.Pairwise (fun x y => lexI y x = false) → Q (.list (ms.map tupD)) := rfl
theorem reps_addr {K : PySem.W.Frag} {F : Hp} : ∀ {vs : List V} {ns : List (List Int)}, Reps K F vs (ns.map tupD) → ∃ ks : List (Addr × List Int), vs = ks.map (fun p => V.ref p.1) ∧ ns = ks.map (·.2) ∧ ∀ p ∈ ks, Rep K F (V.ref p.1) (tupD p.2) ∧ SqT K F p.1 (p.2.map V.int)
  | _, [], h => by cases h; exact ⟨[], rfl, rfl, fun p hp => nomatch hp⟩
  | _, n :: ns, h => by
    cases h with
    | cons h1 h2 =>
      obtain ⟨ks, e1, e2, e3⟩ := reps_addr h2
      obtain ⟨t, xs, rfl, s1, s2, _⟩ := h1.tupI
      have e := s2.ints_inv
      subst e
      refine ⟨(t, n) :: ks, by rw [e1]; rfl, by rw [e2]; rfl, fun p hp => ?_⟩
      rcases List.mem_cons.mp hp with rfl | hp
      · exact ⟨h1, s1⟩
      · exact e3 p hp
theorem reps_addr_of {K : PySem.W.Frag} {F : Hp} : ∀ {ks : List (Addr × List Int)}, (∀ p ∈ ks, Rep K F (V.ref p.1) (tupD p.2)) → Reps K F (ks.map fun p => V.ref p.1) ((ks.map (·.2)).map tupD)
  | [], _ => .nil
  | q :: ks, h => .cons (h q List.mem_cons_self) (reps_addr_of fun p hp => h p (List.mem_cons_of_mem _ hp))
theorem lift_setSortT {K : PySem.W.Frag} {c : Ct} {P : Program} {w : World} {ml : DTA} {n : Nat} {σ : St} {H : Hp} {Q : VK} (h : liftE K c (dB setSortTD ml) σ H Q) : tCB (rSortFew K P w) (tCons (tCB (rSetFew K P w) (liftA K c n ml)) tNil) σ H Q := by
  obtain ⟨F, en, R, r, h, k⟩ := h
  refine ⟨F, en, _, r, h, fun ds hd vs F1 H1 x1 rv _ => ?_⟩
  unfold setSortTD at hd
  split at hd
  · obtain ⟨ns, d, rfl, d1, hl, hf, hd⟩ := hd
    obtain ⟨v, rfl, r1⟩ := rv.one
    obtain ⟨a, ys, rfl, g1, g2, g3⟩ := r1.lstI
    obtain ⟨ks, rfl, rfl, e3⟩ := reps_addr g2
    have few : FewK ks := fun L nd hL => hf L nd fun m hm => by
      obtain ⟨p, hp, e⟩ := hL m hm
      exact List.mem_map.mpr ⟨p, hp, e⟩
    refine ⟨a, ks, rfl, SqL.of (x1.fh _ _ g1), fun p hp => sqT_mono x1.fh (e3 p hp).2, few, fun p L hp sub all => ?_⟩
    have x2 : Ext c.wo F1 H1 F1 (upd H1 p (SetTO P w p L)) := by
      have keep : ∀ b o, H1 b = some o → upd H1 p (SetTO P w p L) b = some o := fun b o e => by
        rw [upd_ne (fun z => by subst z; rw [hp] at e; cases e)]
        exact e
      exact ⟨fun _ _ e => e, fun b o e => keep b o (x1.fh b o e), fun b o e _ => keep b o e, fun _ _ e z => (by rw [z] at e; cases e), fun q hq => (x1.wk q hq).keep (keep _) (keep _)⟩
    refine ⟨p, L, d, rfl, upd_same, fun q hq => sqT_mono x2.fh (e3 q (sub q hq)).2, d1, fun q hq => hl _ (List.mem_map.mpr ⟨q, sub q hq, rfl⟩), fun L' l pm nd pw hl0 => ?_⟩
    have hr : Reps K F1 (L'.map fun p => V.ref p.1) ((L'.map (·.2)).map tupD) := reps_addr_of fun q hq => (e3 q (sub q (pm.mem_iff.mp hq))).1
    have mem : ∀ m, m ∈ L'.map (·.2) ↔ m ∈ ks.map (·.2) := fun m => by
      rw [(pm.map (·.2)).mem_iff]
      constructor
      · intro hm
        obtain ⟨q, hq, e⟩ := List.mem_map.mp hm
        exact List.mem_map.mpr ⟨q, sub q hq, e⟩
      · intro hm
        obtain ⟨q, hq, e⟩ := List.mem_map.mp hm
        rw [← e]
        exact all q hq
    have hz : ((L'.map (·.2)).map tupD).length ≤ sizeLine := by
      have := hf (L'.map (·.2)) nd fun m hm => (mem m).mp hm
      rw [List.length_map]
      have : 62 ≤ sizeLine := by decide
      omega
    obtain ⟨y1, y2⟩ := newLst x2.self hl0 hr hz
    refine k _ (hd (L'.map (·.2)) nd mem ?_) _ _ _ (x1.trans (x2.trans y1)) y2
    rw [List.pairwise_map]
    exact pw
  · exact hd.elim
theorem de_setSortT {X : Cx} {c : Ct} {a : Expr} {ml : DTA} {p p2 pos q : Pos} (hc : X.calm = true) (hu : X.A.units + 64 < cLine) (hm : X.mg "sorted" = none) (hm2 : X.mg "set" = none) (ha : DA X c [a] ml) (hg : Gl X "sorted" := by rfl) (hg2 : Gl X "set" := by rfl)
    (he : starEach [a] X.env = (false, eval a X.env) :: starEach [] X.env := by rfl) (hpl : (backTo q (starEach [] X.env)).any (·.1) = false := by rfl)
    (he2 : starEach [.Call (.Name "set" p2) [a] [] q] X.env = (false, eval (.Call (.Name "set" p2) [a] [] q) X.env) :: starEach [] X.env := by rfl) (hpl2 : (backTo pos (starEach [] X.env)).any (·.1) = false := by rfl) :
    DE X c (.Call (.Name "sorted" p) [.Call (.Name "set" p2) [a] [] q] [] pos) (dB setSortTD ml) :=
  ⟨PE.imp (pe_callB (cr_sortFew hc) hg hm boot_sorted (pa_cons (pe_callTy (cr_setFew hc hu) hg2 hm2 boot_set ha.run (by decide) (by decide) he hpl) pa_nil he2) (by decide) (by decide) he2 hpl2) fun _ _ _ h => lift_setSortT h⟩
end Lay
namespace Lay
open PySem PySem.Spec L2
open PyProof.Rows hiding St
local macro_rules | `(tactic| walk_at "d1") => `(tactic| try simp only [dSeq, dSkip, dPass, dRet, dRetN, dDrop, dCond, dAsg, gNm, gTp, dOwn, dOwnL, dPar, dAug, dApp, dExt, dFrz, dFor, dLc, dBreak, dCont, dVar, dC, dOp, dT, dIsi, dNeg, dNot, dTNot, dAnd, dOr, dTAnd, dTOr, dIf, dCh, dNil, dCons, dTup, dLst, dIxO, dB, dCall, dCallW, dItems, dRng1, dRng2, dYes, fnE, startE, startW, startS, dLenO, dLenS, dIxS, dSl, dPt, dNo, wipeE, addD_int, addD_str, addD_tup, addD_lst, subD_int, mulD_int, mulD_tup, mulD_lst, fdivD_int, modD_int, powD_int, shlD_int, shrD_int, andD_int, ltD_int, leD_int, gtD_int, geD_int, eqD_ap, neD_ap, isD_ap, isNotD_ap, isNon_none, isNon_int, isNon_bool, isNon_str, isNon_tup, isNon_lst, isInt_none, isInt_int, isInt_bool, isInt_str, isInt_tup, isInt_lst, isBool_none, isBool_int, isBool_bool, isBool_str, isBool_tup, isBool_lst, isStr_none, isStr_int, isStr_bool, isStr_str, isStr_tup, isStr_lst, isTup_none, isTup_int, isTup_bool, isTup_str, isTup_tup, isTup_lst, isLst_lst, Cnd_true, Cnd_false, Cnd_not, Cnd_dec, asB_bool, forall_const, true_implies, false_implies, implies_true, decide_true, decide_false, Classical.not_not, negD_int, notD_bool, onVal_val, onOwn_own, onDic_dic, onScr_scr, onWv_wv, onInt_int, onTup_tup, onLst_lst, onItems_lst, onItems_tup, frz1_own, frz1_val, frz1_un, ixD_lst, ixD_tup, ixL_int, optD_some, optI_some, absD_int, intD_int, intD_bool, lenD_lst, lenD_tup, lenD_str, tupleD_lst, tupleD_tup, listD_lst, listD_tup, min2D_int, max2D_int, sumD_ints, allD_bls, anyD_bls, slD_lst, slD_tup, slD_str, gNl_nil, gCs_cons, par2_two, seq1_lst, seq1_tup, rng1D_int, rng2D_int, gt_z, gt_s, sp_next_int, set_z, set_s, List.map_cons, List.map_nil, List.length_cons, List.length_nil, List.cons_append, List.nil_append, List.replicate, Nat.reduceAdd, Nat.reduceSub, Nat.zero_add, shaped_int, shaped_bool, shaped_none, shaped_listI, shaped_tupI, shaped_nilL, shaped_nilT, eqv_int, eqv_bool, eqv_str, eqv_none, eqv_list_nil, List.isEmpty_nil, List.isEmpty_cons, Bool.true_eq_false, Bool.false_eq_true, decide_eq_true_eq, and_self, true_and, and_true, not_dec, Bool.not_eq_true', decide_eq_false_iff_not, atI_0, atI_1, atI_2, ite_true, ite_false, if_true, if_false, reduceIte, Bool.not_true, Bool.not_false, not_true_eq_false, not_false_eq_true, List.set_cons_zero, List.set_cons_succ, dPar3, dRev, par3_three, sortedD_ints, revD_tup, two_nat, one_nat, three_nat, dCh3, dOwnC, dPutPar, putPar_two, dZip2, zip2D_lst, zip2D_tup, dPut, isBD_bl, isNotBD_bl, dNewO, dPutO, dSortedO, putKD_int, dPar3O, dParO2, par3O_two, parO2_one, minLD_lst, dKeysW, rdPairs_nil, rdPairs_cons, onPair_ii, inTD_lst, gTl, dAugS, dZip3, zip3D_tup, zip3L_cons, zip3L_nil, revD_lst])
local macro_rules | `(tactic| walk_at "dd") => `(tactic| (walk_at "d1"; repeat (with_reducible (refine then_intro ?_); walk_at "d1")))
theorem natAbs_fmod_lt (c : Int) {d : Int} (h : d ≠ 0) : (c.fmod d).natAbs < d.natAbs := by
  rw [Int.fmod_eq_emod]
  have h1 := Int.emod_nonneg c h
  have h2 := Int.emod_lt c h
  split
  · rename_i q
    rcases q with q | q
    · omega
    · have := Int.emod_eq_zero_of_dvd q
      omega
  · rename_i q
    have : ¬ (d ∣ c) := fun z => q (.inr z)
    have h3 : c % d ≠ 0 := fun z => this (Int.dvd_of_emod_eq_zero z)
    omega
theorem bits_mono {n m : Nat} {x : Int} (h : x.natAbs < 2 ^ n) (hm : n ≤ m) : x.natAbs < 2 ^ m := Nat.lt_of_lt_of_le h (Nat.pow_le_pow_right (by decide) hm)
theorem bits_mul {n m : Nat} {x y : Int} (hx : x.natAbs < 2 ^ n) (hy : y.natAbs < 2 ^ m) : (x * y).natAbs < 2 ^ (n + m) := wide_lt hx hy
theorem bits_add {n m : Nat} {x y : Int} (hx : x.natAbs < 2 ^ n) (hy : y.natAbs < 2 ^ m) : (x + y).natAbs < 2 ^ (n + m + 1) := by
  have h1 : 2 ^ n ≤ 2 ^ (n + m) := Nat.pow_le_pow_right (by decide) (by omega)
  have h2 : 2 ^ m ≤ 2 ^ (n + m) := Nat.pow_le_pow_right (by decide) (by omega)
  rw [Nat.pow_succ]
  omega
theorem bits_le {n : Nat} {x y : Int} (hx : x.natAbs ≤ y.natAbs) (hy : y.natAbs < 2 ^ n) : x.natAbs < 2 ^ n := Nat.lt_of_le_of_lt hx hy
theorem mulOk {n m : Nat} {x y : Int} (hx : x.natAbs < 2 ^ n) (hy : y.natAbs < 2 ^ m) (h : n + m ≤ 900000) : CMulW x y :=
  wide_mul (bits_mono hx (Nat.le_succ n)) (bits_mono hy (Nat.le_succ m)) (by omega) (by omega) (by omega)
theorem divOk {n : Nat} {x y : Int} (h0 : y ≠ 0) (hy : y.natAbs < 2 ^ n) (h : n ≤ 8999) : CDivB x y :=
  ⟨h0, Nat.lt_of_lt_of_le (PySem.Flt.log2_lt_of (by omega : 0 < n + 1) (Nat.lt_of_lt_of_le hy (Nat.pow_le_pow_right (by decide) (Nat.le_succ n)))) (by omega)⟩
theorem fdiv_pos (a : Int) {b : Int} (h : 0 < b) : a.fdiv b = a / b := Int.fdiv_eq_ediv_of_nonneg a (by omega)
theorem fmod_pos (a : Int) {b : Int} (h : 0 < b) : a.fmod b = a % b := Int.fmod_eq_emod_of_nonneg a (by omega)
/-- a menu of ints -/
theorem menu_ints {ns : List Int} {R : D → Prop} (h : ∀ n ∈ ns, R (.int n)) : ∀ x ∈ ns.map PyData.int, R x := fun x hx => by
  obtain ⟨n, hn, rfl⟩ := List.mem_map.mp hx
  exact h n hn
theorem menu_bound {ns : List Int} {b : Nat} (hb : ns.all (fun n => decide (n.natAbs ≤ b)) = true) {R : D → Prop} (h : ∀ n : Int, n.natAbs ≤ b → R (.int n)) : ∀ x ∈ ns.map PyData.int, R x :=
  menu_ints fun n hn => h n (of_decide_eq_true (List.all_eq_true.mp hb n hn))
theorem menu_p {ns : List Int} (p : Int → Bool) (hb : ns.all p = true) {R : D → Prop} (h : ∀ n : Int, p n = true → R (.int n)) : ∀ x ∈ ns.map PyData.int, R x :=
  menu_ints fun n hn => h n (List.all_eq_true.mp hb n hn)
theorem menu_range {ns : List Int} (a b : Int) (hb : ns.all (fun n => decide (a ≤ n ∧ n ≤ b)) = true) {R : D → Prop} (h : ∀ n : Int, a ≤ n → n ≤ b → R (.int n)) : ∀ x ∈ ns.map PyData.int, R x :=
  menu_p _ hb fun n hn => h n (of_decide_eq_true hn).1 (of_decide_eq_true hn).2
theorem mul_le_nat {x y : Int} {a b : Nat} (hx : x.natAbs ≤ a) (hy : y.natAbs ≤ b) : (x * y).natAbs ≤ a * b := by rw [Int.natAbs_mul]; exact Nat.mul_le_mul hx hy
theorem nat_fmod (x : Nat) (k : Nat) (hk : 0 < k) : (x : Int).fmod (k : Int) = ((x % k : Nat) : Int) := by rw [fmod_pos _ (by omega), Int.natCast_emod]
theorem snoc_ind {α : Type} {P : List α → Prop} (h0 : P []) (h1 : ∀ xs x, P xs → P (xs ++ [x])) : ∀ xs, P xs := by
  have key : ∀ ys : List α, P ys.reverse := fun ys => by
    induction ys with
    | nil => exact h0
    | cons y ys ih => rw [List.reverse_cons]; exact h1 _ _ ih
  exact fun xs => by have := key xs.reverse; rwa [List.reverse_reverse] at this
theorem take_snoc {α : Type} {xs : List α} {i : Nat} {x : α} (h : xs[i]? = some x) : xs.take (i + 1) = xs.take i ++ [x] := by rw [List.take_succ, h]; rfl
local macro_rules | `(tactic| walk_at "d1") => `(tactic| try simp only [dSeq, dSkip, dPass, dRet, dRetN, dDrop, dCond, dAsg, gNm, gTp, dOwn, dOwnL, dPar, dAug, dApp, dExt, dFrz, dFor, dLc, dBreak, dCont, dVar, dC, dOp, dT, dIsi, dNeg, dNot, dTNot, dAnd, dOr, dTAnd, dTOr, dIf, dCh, dNil, dCons, dTup, dLst, dIxO, dB, dCall, dCallW, dItems, dRng1, dRng2, dYes, fnE, startE, startW, startS, dLenO, dLenS, dIxS, dSl, dPt, dNo, wipeE, addD_int, addD_str, addD_tup, addD_lst, subD_int, mulD_int, mulD_tup, mulD_lst, fdivD_int, modD_int, powD_int, shlD_int, shrD_int, andD_int, ltD_int, leD_int, gtD_int, geD_int, eqD_ap, neD_ap, isD_ap, isNotD_ap, isNon_none, isNon_int, isNon_bool, isNon_str, isNon_tup, isNon_lst, isInt_none, isInt_int, isInt_bool, isInt_str, isInt_tup, isInt_lst, isBool_none, isBool_int, isBool_bool, isBool_str, isBool_tup, isBool_lst, isStr_none, isStr_int, isStr_bool, isStr_str, isStr_tup, isStr_lst, isTup_none, isTup_int, isTup_bool, isTup_str, isTup_tup, isTup_lst, isLst_lst, Cnd_true, Cnd_false, Cnd_not, Cnd_dec, asB_bool, forall_const, true_implies, false_implies, implies_true, decide_true, decide_false, Classical.not_not, negD_int, notD_bool, onVal_val, onOwn_own, onDic_dic, onScr_scr, onWv_wv, onInt_int, onTup_tup, onLst_lst, onItems_lst, onItems_tup, frz1_own, frz1_val, frz1_un, ixD_lst, ixD_tup, ixL_int, optD_some, optI_some, absD_int, intD_int, intD_bool, lenD_lst, lenD_tup, lenD_str, tupleD_lst, tupleD_tup, listD_lst, listD_tup, min2D_int, max2D_int, sumD_ints, allD_bls, anyD_bls, slD_lst, slD_tup, slD_str, gNl_nil, gCs_cons, par2_two, seq1_lst, seq1_tup, rng1D_int, rng2D_int, gt_z, gt_s, sp_next_int, set_z, set_s, List.map_cons, List.map_nil, List.length_cons, List.length_nil, List.cons_append, List.nil_append, List.replicate, Nat.reduceAdd, Nat.reduceSub, Nat.zero_add, shaped_int, shaped_bool, shaped_none, shaped_listI, shaped_tupI, shaped_nilL, shaped_nilT, eqv_int, eqv_bool, eqv_str, eqv_none, eqv_list_nil, List.isEmpty_nil, List.isEmpty_cons, Bool.true_eq_false, Bool.false_eq_true, decide_eq_true_eq, and_self, true_and, and_true, not_dec, Bool.not_eq_true', decide_eq_false_iff_not, atI_0, atI_1, atI_2, ite_true, ite_false, if_true, if_false, reduceIte, Bool.not_true, Bool.not_false, not_true_eq_false, not_false_eq_true, List.set_cons_zero, List.set_cons_succ, dPar3, dRev, par3_three, sortedD_ints, revD_tup, two_nat, one_nat, three_nat, dCh3, dOwnC, dPutPar, putPar_two, dZip2, zip2D_lst, zip2D_tup, dPut, isBD_bl, isNotBD_bl, dNewO, dPutO, dSortedO, putKD_int, dPar3O, dParO2, par3O_two, parO2_one, minLD_lst, dKeysW, rdPairs_nil, rdPairs_cons, onPair_ii, inTD_lst, gTl, dAugS, dZip3, zip3D_tup, zip3L_cons, zip3L_nil, revD_lst])
local macro_rules | `(tactic| walk_at "dd") => `(tactic| (walk_at "d1"; repeat (with_reducible (refine then_intro ?_); walk_at "d1")))
def rd_law_draws_b1 : DTS :=
  (dCond (dT (dOp gtD (dVar 6) (dC (.int 0)))) (dSeq (dApp 2 (dOp modD (dB intD (dCons (dVar 6) dNil)) (dC (.int 997)))) (dAsg (dOp fdivD (dVar 6) (dC (.int 997))) (gNm 6))) dSkip)
def rd_law_draws_b2 : DTS :=
  (dSeq (dAsg (dB absD (dCons (dB intD (dCons (dIxS 0 (dVar 4)) dNil)) dNil)) (gNm 5)) (dSeq (dAsg (dOp modD (dB intD (dCons (dOp addD (dOp addD (dOp mulD (dVar 3) (dC (.int 48271))) (dOp modD (dVar 5) (dC (.int 1000003)))) (dVar 4)) dNil)) (dC (.int 65537))) (gNm 3)) (dSeq (dAsg (dC (.int 0)) (gNm 6)) (dSeq (dCond (dT (dOp geD (dVar 5) (dOp powD (dC (.int 10)) (dC (.int 18))))) (dAsg (dVar 5) (gNm 6)) (dSeq (dApp 2 (dOp modD (dB intD (dCons (dVar 5) dNil)) (dC (.int 997)))) (dApp 2 (dOp modD (dOp modD (dB intD (dCons (dOp addD (dOp mulD (dVar 3) (dC (.int 69621))) (dC (.int 5))) dNil)) (dC (.int 65521))) (dC (.int 997)))))) (dFor (dRng1 (dCons (dC (.int 60)) dNil)) (gNm 7) rd_law_draws_b1)))))
def rd_law_draws_b3 : DTS :=
  (dSeq (dAsg (dOp modD (dB intD (dCons (dOp addD (dOp addD (dOp mulD (dVar 3) (dC (.int 16807))) (dVar 4)) (dC (.int 1))) dNil)) (dC (.int 65537))) (gNm 3)) (dApp 2 (dOp modD (dB intD (dCons (dVar 3) dNil)) (dC (.int 997)))))
def rd_law_draws : DTS :=
  (dSeq (dOwn 2 dNil) (dSeq (dAsg (dC (.int 7)) (gNm 3)) (dSeq (dFor (dRng1 (dCons (dLenS 0) dNil)) (gNm 4) rd_law_draws_b2) (dSeq (dFor (dRng1 (dCons (dVar 1) dNil)) (gNm 4) rd_law_draws_b3) (dFrz 2 (dRet (dSl (dVar 2) dNo (dPt (dVar 1)))))))))
def DrawL (ms : List Int) : Prop := ∀ r ∈ ms, 0 ≤ r ∧ r < 997
theorem DrawL.app {ms : List Int} {x : Int} (h : DrawL ms) (h0 : 0 ≤ x) (h1 : x < 997) : DrawL (ms ++ [x]) := fun r hr => by
  rcases List.mem_append.mp hr with hr | hr
  · exact h r hr
  · rw [List.mem_singleton] at hr; subst hr; exact ⟨h0, h1⟩
theorem ok_law_draws : ∀ ns ds R, ns.length ≤ 63 → sp_draws ns ds R → rd_law_draws (fnE R) (startS 8 ns ds) := by
  intro ns ds R h63 h
  unfold sp_draws at h
  split at h
  · rename_i many
    obtain ⟨⟨m0, m1⟩, h⟩ := h
    unfold rd_law_draws
    walk_at "dd"
    refine ⟨by omega, ?_⟩
    refine for_by (fun (s : List Int × Int × Sl × Sl × Sl × Sl) => [.scr ns, .val (.int many), .own (s.1.map .int), .val (.int s.2.1), s.2.2.1, s.2.2.2.1, s.2.2.2.2.1, s.2.2.2.2.2])
      (fun i s => DrawL s.1 ∧ s.1.length ≤ i * 70 ∧ 0 ≤ s.2.1 ∧ s.2.1 < 65537) ([], 7, .un, .un, .un, .un) rfl ⟨(fun r hr => nomatch hr), Nat.zero_le _, by decide, by decide⟩ ?_ ?_
    · rintro i d hd ⟨ms, mixed, u1, u2, u3, u4⟩ ⟨hms, hlen, hm0, hm1⟩ bk
      simp only at hms hlen hm0 hm1
      obtain ⟨hi, rfl⟩ := rangeD_get hd
      have hi' : i < ns.length := by omega
      have en : (0 : Int) + (i : Int) = (i : Int) := by omega
      have ea : atI ns (i : Int) = some ns[i] := atI_nat (List.getElem?_eq_getElem hi')
      unfold rd_law_draws_b2
      walk_at "dd"
      rw [en]
      simp only [ea]
      have hsz : (sizeLine : Nat) = 16777216 := sizeLine_eq
      refine ⟨mulOk (n := 20) (m := 20) (by omega) (by decide) (by decide), by decide, by decide, ⟨by decide, by decide, by decide⟩, ?_⟩
      rw [fmod_pos _ (by decide : (0 : Int) < 65537), fmod_pos _ (by decide : (0 : Int) < 1000003)]
      have q1 := Int.emod_nonneg (mixed * 48271 + (ns[i].natAbs : Int) % 1000003 + (i : Int)) (by decide : (65537 : Int) ≠ 0)
      have q2 := Int.emod_lt_of_pos (mixed * 48271 + (ns[i].natAbs : Int) % 1000003 + (i : Int)) (by decide : (0 : Int) < 65537)
      generalize (mixed * 48271 + (ns[i].natAbs : Int) % 1000003 + (i : Int)) % 65537 = mx at q1 q2
      walk_at "dd"
      -- the inner loop
      have inner : ∀ (ms' : List Int) (rest : Int) (u : Sl), DrawL ms' → ms'.length ≤ i * 70 + 2 →
          ForW (gNm 7) rd_law_draws_b1 (rangeD 0 60) { nx := fun en' => ∃ a', en' = (fun (s : List Int × Int × Sl × Sl × Sl × Sl) => [.scr ns, .val (.int many), .own (s.1.map .int), .val (.int s.2.1), s.2.2.1, s.2.2.2.1, s.2.2.2.2.1, s.2.2.2.2.2]) a' ∧ DrawL a'.1 ∧ a'.1.length ≤ (i + 1) * 70 ∧ 0 ≤ a'.2.1 ∧ a'.2.1 < 65537, ct := fun en' => ∃ a', en' = (fun (s : List Int × Int × Sl × Sl × Sl × Sl) => [.scr ns, .val (.int many), .own (s.1.map .int), .val (.int s.2.1), s.2.2.1, s.2.2.2.1, s.2.2.2.2.1, s.2.2.2.2.2]) a' ∧ DrawL a'.1 ∧ a'.1.length ≤ (i + 1) * 70 ∧ 0 ≤ a'.2.1 ∧ a'.2.1 < 65537, bk := bk, rt := R }
            [.scr ns, .val (.int many), .own (ms'.map .int), .val (.int mx), .val (.int (i : Int)), .val (.int (ns[i].natAbs : Int)), .val (.int rest), u] := by
        intro ms' rest u hms' hl'
        refine for_by (fun (s : List Int × Int × Sl) => [.scr ns, .val (.int many), .own (s.1.map .int), .val (.int mx), .val (.int (i : Int)), .val (.int (ns[i].natAbs : Int)), .val (.int s.2.1), s.2.2])
          (fun j s => DrawL s.1 ∧ s.1.length ≤ i * 70 + 2 + j) (ms', rest, u) rfl ⟨hms', by omega⟩ ?_ ?_
        · rintro j d hd ⟨ms2, r2, u2⟩ ⟨hm2, hl2⟩ bk'
          simp only at hm2 hl2
          obtain ⟨hj, rfl⟩ := rangeD_get hd
          unfold rd_law_draws_b1
          walk_at "dd"
          refine ⟨fun hr => ?_, fun hr => ?_⟩
          · rw [fmod_pos _ (by decide : (0 : Int) < 997)]
            have q3 := Int.emod_nonneg r2 (by decide : (997 : Int) ≠ 0)
            have q4 := Int.emod_lt_of_pos r2 (by decide : (0 : Int) < 997)
            refine ⟨by decide, by rw [List.length_map]; omega, divOk (n := 10) (by decide) (by decide) (by decide), ?_⟩
            exact ⟨(ms2 ++ [r2 % 997], r2.fdiv 997, _), by rw [List.map_append]; rfl, hm2.app q3 q4, by simp only [List.length_append, List.length_singleton]; omega⟩
          · exact ⟨(ms2, r2, _), rfl, hm2, by simp only; omega⟩
        · rintro ⟨ms2, r2, u2⟩ ⟨hm2, hl2⟩
          simp only [rangeD_length] at hm2 hl2
          exact ⟨(ms2, mx, .val (.int (i : Int)), .val (.int (ns[i].natAbs : Int)), .val (.int r2), u2), rfl, hm2, by simp only; omega, q1, q2⟩
      refine ⟨fun hc => ?_, fun hc => ?_⟩
      all_goals walk_at "dd"
      · exact ⟨by decide, inner ms _ _ hms (by omega)⟩
      · refine ⟨by decide, by rw [List.length_map]; omega, mulOk (n := 20) (m := 20) (by omega) (by decide) (by decide), by decide, by decide, by rw [List.length_append, List.length_map, List.length_singleton]; omega, by decide, ?_⟩
        rw [fmod_pos _ (by decide : (0 : Int) < 997), fmod_pos _ (by decide : (0 : Int) < 997), fmod_pos _ (by decide : (0 : Int) < 65521)]
        have e : (ms.map PyData.int ++ [.int ((ns[i].natAbs : Int) % 997)]) ++ [.int ((mx * 69621 + 5) % 65521 % 997)] = (ms ++ [(ns[i].natAbs : Int) % 997] ++ [(mx * 69621 + 5) % 65521 % 997]).map PyData.int := by simp
        rw [e]
        refine inner _ _ _ ((hms.app (Int.emod_nonneg _ (by decide)) (Int.emod_lt_of_pos _ (by decide))).app (Int.emod_nonneg _ (by decide)) (Int.emod_lt_of_pos _ (by decide))) ?_
        simp only [List.length_append, List.length_singleton]
        omega
    · rintro ⟨ms, mixed, u1, u2, u3, u4⟩ ⟨hms, hlen, hm0, hm1⟩
      simp only [rangeD_length] at hms hlen hm0 hm1
      walk_at "dd"
      refine ⟨by omega, ?_⟩
      refine for_by (fun (s : List Int × Int × Sl) => [.scr ns, .val (.int many), .own (s.1.map .int), .val (.int s.2.1), s.2.2, u2, u3, u4])
        (fun i s => DrawL s.1 ∧ s.1.length ≤ 5000 + i ∧ 0 ≤ s.2.1 ∧ s.2.1 < 65537) (ms, mixed, u1) rfl ⟨hms, by simp only; omega, hm0, hm1⟩ ?_ ?_
      · rintro i d hd ⟨ms2, m2, u⟩ ⟨hm2, hl2, h1, h2⟩ bk
        simp only at hm2 hl2 h1 h2
        obtain ⟨hi, rfl⟩ := rangeD_get hd
        unfold rd_law_draws_b3
        walk_at "dd"
        have hsz : (sizeLine : Nat) = 16777216 := sizeLine_eq
        refine ⟨mulOk (n := 20) (m := 20) (by omega) (by decide) (by decide), by decide, by decide, by rw [List.length_map]; omega, ?_⟩
        rw [fmod_pos _ (by decide : (0 : Int) < 997), fmod_pos _ (by decide : (0 : Int) < 65537)]
        exact ⟨(ms2 ++ [(m2 * 16807 + (0 + (i : Int)) + 1) % 65537 % 997], (m2 * 16807 + (0 + (i : Int)) + 1) % 65537, _), by rw [List.map_append]; rfl, hm2.app (Int.emod_nonneg _ (by decide)) (Int.emod_lt_of_pos _ (by decide)),
          by simp only [List.length_append, List.length_singleton]; omega, Int.emod_nonneg _ (by decide), Int.emod_lt_of_pos _ (by decide)⟩
      · rintro ⟨ms2, m2, u⟩ ⟨hm2, hl2, h1, h2⟩
        simp only at hm2
        walk_at "dd"
        have e : cutL (ms2.map PyData.int) none (some many) = (cutL ms2 none (some many)).map .int := by
          unfold cutL
          rw [List.length_map, List.map_take, List.map_drop]
        rw [e]
        refine h _ fun r hr => hm2 r ?_
        unfold cutL at hr
        exact List.mem_of_mem_drop (List.mem_of_mem_take hr)
  · exact h.elim
local macro_rules | `(tactic| walk_at "d1") => `(tactic| try simp only [dSeq, dSkip, dPass, dRet, dRetN, dDrop, dCond, dAsg, gNm, gTp, dOwn, dOwnL, dPar, dAug, dApp, dExt, dFrz, dFor, dLc, dBreak, dCont, dVar, dC, dOp, dT, dIsi, dNeg, dNot, dTNot, dAnd, dOr, dTAnd, dTOr, dIf, dCh, dNil, dCons, dTup, dLst, dIxO, dB, dCall, dCallW, dItems, dRng1, dRng2, dYes, fnE, startE, startW, startS, dLenO, dLenS, dIxS, dSl, dPt, dNo, wipeE, addD_int, addD_str, addD_tup, addD_lst, subD_int, mulD_int, mulD_tup, mulD_lst, fdivD_int, modD_int, powD_int, shlD_int, shrD_int, andD_int, ltD_int, leD_int, gtD_int, geD_int, eqD_ap, neD_ap, isD_ap, isNotD_ap, isNon_none, isNon_int, isNon_bool, isNon_str, isNon_tup, isNon_lst, isInt_none, isInt_int, isInt_bool, isInt_str, isInt_tup, isInt_lst, isBool_none, isBool_int, isBool_bool, isBool_str, isBool_tup, isBool_lst, isStr_none, isStr_int, isStr_bool, isStr_str, isStr_tup, isStr_lst, isTup_none, isTup_int, isTup_bool, isTup_str, isTup_tup, isTup_lst, isLst_lst, Cnd_true, Cnd_false, Cnd_not, Cnd_dec, asB_bool, forall_const, true_implies, false_implies, implies_true, decide_true, decide_false, Classical.not_not, negD_int, notD_bool, onVal_val, onOwn_own, onDic_dic, onScr_scr, onWv_wv, onInt_int, onTup_tup, onLst_lst, onItems_lst, onItems_tup, frz1_own, frz1_val, frz1_un, ixD_lst, ixD_tup, ixL_int, optD_some, optI_some, absD_int, intD_int, intD_bool, lenD_lst, lenD_tup, lenD_str, tupleD_lst, tupleD_tup, listD_lst, listD_tup, min2D_int, max2D_int, sumD_ints, allD_bls, anyD_bls, slD_lst, slD_tup, slD_str, gNl_nil, gCs_cons, par2_two, seq1_lst, seq1_tup, rng1D_int, rng2D_int, gt_z, gt_s, sp_next_int, set_z, set_s, List.map_cons, List.map_nil, List.length_cons, List.length_nil, List.cons_append, List.nil_append, List.replicate, Nat.reduceAdd, Nat.reduceSub, Nat.zero_add, shaped_int, shaped_bool, shaped_none, shaped_listI, shaped_tupI, shaped_nilL, shaped_nilT, eqv_int, eqv_bool, eqv_str, eqv_none, eqv_list_nil, List.isEmpty_nil, List.isEmpty_cons, Bool.true_eq_false, Bool.false_eq_true, decide_eq_true_eq, and_self, true_and, and_true, not_dec, Bool.not_eq_true', decide_eq_false_iff_not, atI_0, atI_1, atI_2, ite_true, ite_false, if_true, if_false, reduceIte, Bool.not_true, Bool.not_false, not_true_eq_false, not_false_eq_true, List.set_cons_zero, List.set_cons_succ, dPar3, dRev, par3_three, sortedD_ints, revD_tup, two_nat, one_nat, three_nat, dCh3, dOwnC, dPutPar, putPar_two, dZip2, zip2D_lst, zip2D_tup, dPut, isBD_bl, isNotBD_bl, dNewO, dPutO, dSortedO, putKD_int, dPar3O, dParO2, par3O_two, parO2_one, minLD_lst, dKeysW, rdPairs_nil, rdPairs_cons, onPair_ii, inTD_lst, gTl, dAugS, dZip3, zip3D_tup, zip3L_cons, zip3L_nil, revD_lst])
local macro_rules | `(tactic| walk_at "dd") => `(tactic| (walk_at "d1"; repeat (with_reducible (refine then_intro ?_); walk_at "d1")))
def rd_law_pick : DTS :=
  (dRet (dOp ixD (dVar 1) (dCallW 0 sp_next (dCons (dB lenD (dCons (dVar 1) dNil)) dNil))))
def sp_law_pick : Lay.Spec := fun ds R => match ds with
  | [.list xs] => xs ≠ [] ∧ ∀ x ∈ xs, R x
  | [.tuple xs] => xs ≠ [] ∧ ∀ x ∈ xs, R x
  | _ => False
theorem pick_at {xs : List D} {R : D → Prop} (h : ∀ x ∈ xs, R x) {r : Int} (h0 : 0 ≤ r) (h1 : r < xs.length) : optD (atI xs r) R := by
  obtain ⟨x, e1, e2⟩ := atI_at h0 h1
  rw [e2]
  exact h x (List.mem_of_getElem? e1)
theorem ok_law_pick : ∀ ds R, sp_law_pick ds R → rd_law_pick (fnE R) (startW 2 ds) := by
  intro ds R h
  unfold sp_law_pick at h
  split at h
  · rename_i xs
    obtain ⟨hn, h⟩ := h
    have hl := List.length_pos_iff.mpr hn
    unfold rd_law_pick
    simp only [dRet, dOp, dVar, dCallW, dCons, dNil, dB, lenD, sp_next, startW, gt, fnE, List.map_cons, List.map_nil, List.length_cons, List.cons_append, List.nil_append, ixD]
    refine ⟨by omega, fun r h0 h1 _ => ?_⟩
    show ixL xs (.int r) R
    exact pick_at h h0 (by omega)
  · rename_i xs
    obtain ⟨hn, h⟩ := h
    have hl := List.length_pos_iff.mpr hn
    unfold rd_law_pick
    simp only [dRet, dOp, dVar, dCallW, dCons, dNil, dB, lenD, sp_next, startW, gt, fnE, List.map_cons, List.map_nil, List.length_cons, List.cons_append, List.nil_append, ixD]
    refine ⟨by omega, fun r h0 h1 _ => ?_⟩
    show ixL xs (.int r) R
    exact pick_at h h0 (by omega)
  · exact h.elim
local macro_rules | `(tactic| walk_at "d1") => `(tactic| try simp only [dSeq, dSkip, dPass, dRet, dRetN, dDrop, dCond, dAsg, gNm, gTp, dOwn, dOwnL, dPar, dAug, dApp, dExt, dFrz, dFor, dLc, dBreak, dCont, dVar, dC, dOp, dT, dIsi, dNeg, dNot, dTNot, dAnd, dOr, dTAnd, dTOr, dIf, dCh, dNil, dCons, dTup, dLst, dIxO, dB, dCall, dCallW, dItems, dRng1, dRng2, dYes, fnE, startE, startW, startS, dLenO, dLenS, dIxS, dSl, dPt, dNo, wipeE, addD_int, addD_str, addD_tup, addD_lst, subD_int, mulD_int, mulD_tup, mulD_lst, fdivD_int, modD_int, powD_int, shlD_int, shrD_int, andD_int, ltD_int, leD_int, gtD_int, geD_int, eqD_ap, neD_ap, isD_ap, isNotD_ap, isNon_none, isNon_int, isNon_bool, isNon_str, isNon_tup, isNon_lst, isInt_none, isInt_int, isInt_bool, isInt_str, isInt_tup, isInt_lst, isBool_none, isBool_int, isBool_bool, isBool_str, isBool_tup, isBool_lst, isStr_none, isStr_int, isStr_bool, isStr_str, isStr_tup, isStr_lst, isTup_none, isTup_int, isTup_bool, isTup_str, isTup_tup, isTup_lst, isLst_lst, Cnd_true, Cnd_false, Cnd_not, Cnd_dec, asB_bool, forall_const, true_implies, false_implies, implies_true, decide_true, decide_false, Classical.not_not, negD_int, notD_bool, onVal_val, onOwn_own, onDic_dic, onScr_scr, onWv_wv, onInt_int, onTup_tup, onLst_lst, onItems_lst, onItems_tup, frz1_own, frz1_val, frz1_un, ixD_lst, ixD_tup, ixL_int, optD_some, optI_some, absD_int, intD_int, intD_bool, lenD_lst, lenD_tup, lenD_str, tupleD_lst, tupleD_tup, listD_lst, listD_tup, min2D_int, max2D_int, sumD_ints, allD_bls, anyD_bls, slD_lst, slD_tup, slD_str, gNl_nil, gCs_cons, par2_two, seq1_lst, seq1_tup, rng1D_int, rng2D_int, gt_z, gt_s, sp_next_int, set_z, set_s, List.map_cons, List.map_nil, List.length_cons, List.length_nil, List.cons_append, List.nil_append, List.replicate, Nat.reduceAdd, Nat.reduceSub, Nat.zero_add, shaped_int, shaped_bool, shaped_none, shaped_listI, shaped_tupI, shaped_nilL, shaped_nilT, eqv_int, eqv_bool, eqv_str, eqv_none, eqv_list_nil, List.isEmpty_nil, List.isEmpty_cons, Bool.true_eq_false, Bool.false_eq_true, decide_eq_true_eq, and_self, true_and, and_true, not_dec, Bool.not_eq_true', decide_eq_false_iff_not, atI_0, atI_1, atI_2, ite_true, ite_false, if_true, if_false, reduceIte, Bool.not_true, Bool.not_false, not_true_eq_false, not_false_eq_true, List.set_cons_zero, List.set_cons_succ, dPar3, dRev, par3_three, sortedD_ints, revD_tup, two_nat, one_nat, three_nat, dCh3, dOwnC, dPutPar, putPar_two, dZip2, zip2D_lst, zip2D_tup, dPut, isBD_bl, isNotBD_bl, dNewO, dPutO, dSortedO, putKD_int, dPar3O, dParO2, par3O_two, parO2_one, minLD_lst, dKeysW, rdPairs_nil, rdPairs_cons, onPair_ii, inTD_lst, gTl, dAugS, dZip3, zip3D_tup, zip3L_cons, zip3L_nil, revD_lst])
local macro_rules | `(tactic| walk_at "dd") => `(tactic| (walk_at "d1"; repeat (with_reducible (refine then_intro ?_); walk_at "d1")))
def rd_law_small_v2 : DTS :=
  (dSeq (dAsg (dCallW 0 sp_law_pick (dCons (dLst (dCons (dC (.int 1)) (dCons (dC (.int 1)) (dCons (dC (.int 1)) (dCons (dC (.int 2)) (dCons (dC (.int 3)) (dCons (dC (.int 5)) (dCons (dC (.int 6)) (dCons (dC (.int 7)) (dCons (dC (.int 10)) (dCons (dC (.int 11)) (dCons (dC (.int 13)) (dCons (dC (.int 15)) (dCons (dC (.int 4)) (dCons (dC (.int 12)) (dCons (dOp addD (dC (.int 1)) (dCallW 0 sp_next (dCons (dC (.int 40)) dNil))) dNil)))))))))))))))) dNil)) (gNm 1)) (dRet (dIf (dT (dOp eqD (dCallW 0 sp_next (dCons (dC (.int 2)) dNil)) (dC (.int 0)))) (dVar 1) (dOp subD (dC (.int 0)) (dVar 1)))))
def sp_law_small_v2 : Lay.Spec := fun ds R => match ds with
  | [] => ∀ n : Int, n ≠ 0 → n.natAbs ≤ 41 → R (.int n)
  | _ => False
theorem ok_law_small_v2 : ∀ ds R, sp_law_small_v2 ds R → rd_law_small_v2 (fnE R) (startW 2 ds) := by
  intro ds R h
  unfold sp_law_small_v2 at h
  split at h
  · unfold rd_law_small_v2
    walk_at "dd"
    refine ⟨by decide, fun x x0 x1 _ => ?_⟩
    walk_at "dd"
    refine ⟨List.cons_ne_nil _ _, ?_⟩
    refine menu_ints (ns := [1, 1, 1, 2, 3, 5, 6, 7, 10, 11, 13, 15, 4, 12, 1 + x]) fun n hn => ?_
    have hb : 0 < n ∧ n ≤ 41 := by
      simp only [List.mem_cons, List.not_mem_nil, or_false] at hn
      omega
    walk_at "dd"
    refine ⟨by decide, fun r r0 r1 _ => ?_⟩
    walk_at "dd"
    exact ⟨fun _ => h n (by omega) (by omega), fun _ => h _ (by omega) (by omega)⟩
  · exact h.elim
local macro_rules | `(tactic| walk_at "d1") => `(tactic| try simp only [dSeq, dSkip, dPass, dRet, dRetN, dDrop, dCond, dAsg, gNm, gTp, dOwn, dOwnL, dPar, dAug, dApp, dExt, dFrz, dFor, dLc, dBreak, dCont, dVar, dC, dOp, dT, dIsi, dNeg, dNot, dTNot, dAnd, dOr, dTAnd, dTOr, dIf, dCh, dNil, dCons, dTup, dLst, dIxO, dB, dCall, dCallW, dItems, dRng1, dRng2, dYes, fnE, startE, startW, startS, dLenO, dLenS, dIxS, dSl, dPt, dNo, wipeE, addD_int, addD_str, addD_tup, addD_lst, subD_int, mulD_int, mulD_tup, mulD_lst, fdivD_int, modD_int, powD_int, shlD_int, shrD_int, andD_int, ltD_int, leD_int, gtD_int, geD_int, eqD_ap, neD_ap, isD_ap, isNotD_ap, isNon_none, isNon_int, isNon_bool, isNon_str, isNon_tup, isNon_lst, isInt_none, isInt_int, isInt_bool, isInt_str, isInt_tup, isInt_lst, isBool_none, isBool_int, isBool_bool, isBool_str, isBool_tup, isBool_lst, isStr_none, isStr_int, isStr_bool, isStr_str, isStr_tup, isStr_lst, isTup_none, isTup_int, isTup_bool, isTup_str, isTup_tup, isTup_lst, isLst_lst, Cnd_true, Cnd_false, Cnd_not, Cnd_dec, asB_bool, forall_const, true_implies, false_implies, implies_true, decide_true, decide_false, Classical.not_not, negD_int, notD_bool, onVal_val, onOwn_own, onDic_dic, onScr_scr, onWv_wv, onInt_int, onTup_tup, onLst_lst, onItems_lst, onItems_tup, frz1_own, frz1_val, frz1_un, ixD_lst, ixD_tup, ixL_int, optD_some, optI_some, absD_int, intD_int, intD_bool, lenD_lst, lenD_tup, lenD_str, tupleD_lst, tupleD_tup, listD_lst, listD_tup, min2D_int, max2D_int, sumD_ints, allD_bls, anyD_bls, slD_lst, slD_tup, slD_str, gNl_nil, gCs_cons, par2_two, seq1_lst, seq1_tup, rng1D_int, rng2D_int, gt_z, gt_s, sp_next_int, set_z, set_s, List.map_cons, List.map_nil, List.length_cons, List.length_nil, List.cons_append, List.nil_append, List.replicate, Nat.reduceAdd, Nat.reduceSub, Nat.zero_add, shaped_int, shaped_bool, shaped_none, shaped_listI, shaped_tupI, shaped_nilL, shaped_nilT, eqv_int, eqv_bool, eqv_str, eqv_none, eqv_list_nil, List.isEmpty_nil, List.isEmpty_cons, Bool.true_eq_false, Bool.false_eq_true, decide_eq_true_eq, and_self, true_and, and_true, not_dec, Bool.not_eq_true', decide_eq_false_iff_not, atI_0, atI_1, atI_2, ite_true, ite_false, if_true, if_false, reduceIte, Bool.not_true, Bool.not_false, not_true_eq_false, not_false_eq_true, List.set_cons_zero, List.set_cons_succ, dPar3, dRev, par3_three, sortedD_ints, revD_tup, two_nat, one_nat, three_nat, dCh3, dOwnC, dPutPar, putPar_two, dZip2, zip2D_lst, zip2D_tup, dPut, isBD_bl, isNotBD_bl, dNewO, dPutO, dSortedO, putKD_int, dPar3O, dParO2, par3O_two, parO2_one, minLD_lst, dKeysW, rdPairs_nil, rdPairs_cons, onPair_ii, inTD_lst, gTl, dAugS, dZip3, zip3D_tup, zip3L_cons, zip3L_nil, revD_lst])
local macro_rules | `(tactic| walk_at "dd") => `(tactic| (walk_at "d1"; repeat (with_reducible (refine then_intro ?_); walk_at "d1")))
def rd_law_form_v2 : DTS :=
  (dSeq (dCond (dT (dOp eqD (dCallW 0 sp_next (dCons (dC (.int 2)) dNil)) (dC (.int 0)))) (dRet (dB tupleD (dCons (dLc false (dRng1 (dCons (dC (.int 3)) dNil)) (gNm 1) dYes (dCallW 0 sp_law_small_v2 dNil) [1]) dNil))) dSkip) (dSeq (dAsg (dTup (dCons (dCallW 0 sp_law_small_v2 dNil) (dCons (dCallW 0 sp_law_small_v2 dNil) (dCons (dCallW 0 sp_next (dCons (dC (.int 7)) dNil)) (dCons (dOp addD (dC (.int 1)) (dCallW 0 sp_next (dCons (dC (.int 7)) dNil))) (dCons (dOp addD (dC (.int 1)) (dCallW 0 sp_next (dCons (dC (.int 3)) dNil))) dNil)))))) (gTp 5 (gCs (gNm 2) (gCs (gNm 3) (gCs (gNm 4) (gCs (gNm 5) (gCs (gNm 6) gNl))))))) (dSeq (dAsg (dOp subD (dC (.int 0)) (dOp addD (dOp mulD (dOp mulD (dVar 2) (dVar 4)) (dVar 4)) (dOp mulD (dOp mulD (dVar 3) (dVar 5)) (dVar 5)))) (gNm 7)) (dSeq (dCond (dT (dOp eqD (dVar 7) (dC (.int 0)))) (dRet (dTup (dCons (dVar 2) (dCons (dVar 3) (dCons (dOp subD (dC (.int 0)) (dVar 2)) dNil))))) dSkip) (dSeq (dAsg (dIf (dT (dOp eqD (dOp modD (dB intD (dCons (dVar 7) dNil)) (dOp mulD (dVar 6) (dVar 6))) (dC (.int 0)))) (dOp mulD (dVar 6) (dVar 6)) (dC (.int 1))) (gNm 8)) (dRet (dCallW 0 sp_law_pick (dCons (dLst (dCons (dTup (dCons (dVar 2) (dCons (dVar 3) (dCons (dOp fdivD (dVar 7) (dVar 8)) dNil)))) (dCons (dTup (dCons (dOp fdivD (dVar 7) (dVar 8)) (dCons (dVar 2) (dCons (dVar 3) dNil)))) (dCons (dTup (dCons (dVar 2) (dCons (dOp fdivD (dVar 7) (dVar 8)) (dCons (dVar 3) dNil)))) dNil)))) dNil))))))))
def Sm3 (a b c : Int) : Prop := a.natAbs ≤ 41 ∧ b.natAbs ≤ 41 ∧ c.natAbs ≤ 41
def FormS (a b c : Int) : Prop := (a ≠ 0 ∧ b ≠ 0 ∧ c ≠ 0) ∧ (a.natAbs ≤ 3485 ∧ b.natAbs ≤ 3485 ∧ c.natAbs ≤ 3485) ∧ ((a * c).natAbs ≤ 142885 ∧ (b * c).natAbs ≤ 142885 ∧ (a * b).natAbs ≤ 142885) ∧ (Sm3 a b c ∨ ∃ x y z : Int, ¬ (x = 0 ∧ y = 0 ∧ z = 0) ∧ a * (x * x) + b * (y * y) + c * (z * z) = 0)
def Two41 (a b c : Int) : Prop := (a.natAbs ≤ 41 ∧ b.natAbs ≤ 41) ∨ (a.natAbs ≤ 41 ∧ c.natAbs ≤ 41) ∨ (b.natAbs ≤ 41 ∧ c.natAbs ≤ 41)
/-- a form of the law, two of its numbers small -/
def FormT (a b c : Int) : Prop := FormS a b c ∧ Two41 a b c
def sp_law_form_v2 : Lay.Spec := fun ds R => match ds with
  | [] => ∀ a b c : Int, FormT a b c → R (.tuple [.int a, .int b, .int c])
  | _ => False
theorem nat_mul_le {a b n m : Nat} (h1 : a ≤ n) (h2 : b ≤ m) : a * b ≤ n * m := Nat.mul_le_mul h1 h2
theorem formS_small {a b c : Int} (a0 : a ≠ 0) (b0 : b ≠ 0) (c0 : c ≠ 0) (h : Sm3 a b c) : FormS a b c := by
  obtain ⟨h1, h2, h3⟩ := h
  refine ⟨⟨a0, b0, c0⟩, ⟨by omega, by omega, by omega⟩, ⟨?_, ?_, ?_⟩, .inl ⟨h1, h2, h3⟩⟩ <;> rw [Int.natAbs_mul]
  · have := nat_mul_le h1 h3; omega
  · have := nat_mul_le h2 h3; omega
  · have := nat_mul_le h1 h2; omega
theorem formS_rot {a b c : Int} (h : FormS a b c) : FormS c a b := by
  obtain ⟨⟨a0, b0, c0⟩, ⟨h1, h2, h3⟩, ⟨k1, k2, k3⟩, h⟩ := h
  refine ⟨⟨c0, a0, b0⟩, ⟨h3, h1, h2⟩, ⟨by rwa [Int.mul_comm], k3, by rwa [Int.mul_comm]⟩, ?_⟩
  rcases h with ⟨s1, s2, s3⟩ | ⟨x, y, z, n, e⟩
  · exact .inl ⟨s3, s1, s2⟩
  · exact .inr ⟨z, x, y, fun ⟨u, v, w⟩ => n ⟨v, w, u⟩, by rw [← e]; omega⟩
theorem formS_swap {a b c : Int} (h : FormS a b c) : FormS a c b := by
  obtain ⟨⟨a0, b0, c0⟩, ⟨h1, h2, h3⟩, ⟨k1, k2, k3⟩, h⟩ := h
  refine ⟨⟨a0, c0, b0⟩, ⟨h1, h3, h2⟩, ⟨k3, by rwa [Int.mul_comm], k1⟩, ?_⟩
  rcases h with ⟨s1, s2, s3⟩ | ⟨x, y, z, n, e⟩
  · exact .inl ⟨s1, s3, s2⟩
  · exact .inr ⟨x, z, y, fun ⟨u, v, w⟩ => n ⟨u, w, v⟩, by rw [← e]; omega⟩
theorem formS_zero {a b c x y z : Int} (a0 : a ≠ 0) (b0 : b ≠ 0) (c0 : c ≠ 0) (ab : a.natAbs ≤ 41) (bb : b.natAbs ≤ 41) (cb : c.natAbs ≤ 3485) (n : ¬ (x = 0 ∧ y = 0 ∧ z = 0)) (e : a * (x * x) + b * (y * y) + c * (z * z) = 0) : FormS a b c := by
  refine ⟨⟨a0, b0, c0⟩, ⟨by omega, by omega, by omega⟩, ⟨?_, ?_, ?_⟩, .inr ⟨x, y, z, n, e⟩⟩ <;> rw [Int.natAbs_mul]
  · have := nat_mul_le ab cb; omega
  · have := nat_mul_le bb cb; omega
  · have := nat_mul_le ab bb; omega
theorem formT_small {a b c : Int} (a0 : a ≠ 0) (b0 : b ≠ 0) (c0 : c ≠ 0) (h : Sm3 a b c) : FormT a b c := ⟨formS_small a0 b0 c0 h, .inl ⟨h.1, h.2.1⟩⟩
theorem formT_rot {a b c : Int} (h : FormT a b c) : FormT c a b := by
  refine ⟨formS_rot h.1, ?_⟩
  rcases h.2 with ⟨h1, h2⟩ | ⟨h1, h2⟩ | ⟨h1, h2⟩
  · exact .inr (.inr ⟨h1, h2⟩)
  · exact .inl ⟨h2, h1⟩
  · exact .inr (.inl ⟨h2, h1⟩)
theorem formT_swap {a b c : Int} (h : FormT a b c) : FormT a c b := by
  refine ⟨formS_swap h.1, ?_⟩
  rcases h.2 with ⟨h1, h2⟩ | ⟨h1, h2⟩ | ⟨h1, h2⟩
  · exact .inr (.inl ⟨h1, h2⟩)
  · exact .inl ⟨h1, h2⟩
  · exact .inr (.inr ⟨h2, h1⟩)
theorem formT_zero {a b c x y z : Int} (a0 : a ≠ 0) (b0 : b ≠ 0) (c0 : c ≠ 0) (ab : a.natAbs ≤ 41) (bb : b.natAbs ≤ 41) (cb : c.natAbs ≤ 3485) (n : ¬ (x = 0 ∧ y = 0 ∧ z = 0)) (e : a * (x * x) + b * (y * y) + c * (z * z) = 0) : FormT a b c := ⟨formS_zero a0 b0 c0 ab bb cb n e, .inl ⟨ab, bb⟩⟩
theorem ok_law_form_v2 : ∀ ds R, sp_law_form_v2 ds R → rd_law_form_v2 (fnE R) (startW 9 ds) := by
  intro ds R h
  unfold sp_law_form_v2 at h
  split at h
  · unfold rd_law_form_v2
    walk_at "dd"
    have hsz : 5000 < sizeLine := by decide
    refine ⟨by decide, fun r r0 r1 _ => ⟨fun _ => ⟨by decide, ?_⟩, fun _ => then_intro ?_⟩⟩
    · refine lc_each (fun y => ∃ n : Int, y = .int n ∧ n ≠ 0 ∧ n.natAbs ≤ 41) (fun _ => by simp only [rangeD_length]; decide) (fun d hd P hP => ?_) fun ys hl hy => ?_
      · obtain ⟨k, hk⟩ := List.getElem?_of_mem hd
        rw [(rangeD_get hk).2]
        walk_at "dd"
        exact fun n n0 nb => hP _ ⟨n, rfl, n0, nb⟩
      · match ys, hl, hy with
        | [y1, y2, y3], _, hy =>
          obtain ⟨a, rfl, a0, ab⟩ := hy y1 (by simp)
          obtain ⟨b, rfl, b0, bb⟩ := hy y2 (by simp)
          obtain ⟨c, rfl, c0, cb⟩ := hy y3 (by simp)
          exact h a b c (formT_small a0 b0 c0 ⟨ab, bb, cb⟩)
    · walk_at "dd"
      intro a a0 ab b b0 bb
      refine ⟨by decide, fun x x0 x1 _ => ⟨by decide, fun y y0 y1 _ => ⟨by decide, fun z z0 z1 _ => ?_⟩⟩⟩
      generalize hY : 1 + y = Y
      generalize hZ : 1 + z = Z
      have a6 : a.natAbs < 2 ^ 6 := by omega
      have b6 : b.natAbs < 2 ^ 6 := by omega
      have x3 : x.natAbs < 2 ^ 3 := by omega
      have y3 : Y.natAbs < 2 ^ 3 := by omega
      have z3 : Z.natAbs < 2 ^ 3 := by omega
      walk_at "dd"
      refine ⟨mulOk a6 x3 (by decide), mulOk (n := 9) (bits_mul a6 x3) x3 (by decide), mulOk b6 y3 (by decide), mulOk (n := 9) (bits_mul b6 y3) y3 (by decide), ?_⟩
      have cb : (a * x * x + b * Y * Y).natAbs ≤ 3485 := by
        have h1 : (a * x * x).natAbs ≤ 41 * 36 := by
          rw [Int.mul_assoc, Int.natAbs_mul, Int.natAbs_mul]
          exact Nat.mul_le_mul ab (Nat.mul_le_mul (by omega : x.natAbs ≤ 6) (by omega : x.natAbs ≤ 6))
        have h2 : (b * Y * Y).natAbs ≤ 41 * 49 := by
          rw [Int.mul_assoc, Int.natAbs_mul, Int.natAbs_mul]
          exact Nat.mul_le_mul bb (Nat.mul_le_mul (by omega : Y.natAbs ≤ 7) (by omega : Y.natAbs ≤ 7))
        omega
      generalize hc : 0 - (a * x * x + b * Y * Y) = c
      refine then_intro ?_
      walk_at "dd"
      refine ⟨fun _ => ?_, fun c0 => then_intro ?_⟩
      · refine h _ _ _ (formT_swap (formT_zero (x := 1) (y := 1) (z := 0) a0 (by omega) b0 ab (by omega) (by omega) (by omega) (by omega)))
      · have zz : 0 < Z * Z ∧ Z * Z ≤ 9 := by
          rcases (show Z = 1 ∨ Z = 2 ∨ Z = 3 by omega) with rfl | rfl | rfl <;> decide
        walk_at "dd"
        have fin : ∀ d : Int, 0 < d → d ≤ 9 → ∀ e : Int, c = d * e → ((x = 0 ∧ Y = 0 ∧ (1 : Int) = 0) → False) → (d = Z * Z ∨ d = 1) → CDivB c d ∧ ([PyData.tuple [.int a, .int b, .int (c.fdiv d)], .tuple [.int (c.fdiv d), .int a, .int b], .tuple [.int a, .int (c.fdiv d), .int b]] ≠ [] ∧ ∀ t ∈ [PyData.tuple [.int a, .int b, .int (c.fdiv d)], .tuple [.int (c.fdiv d), .int a, .int b], .tuple [.int a, .int (c.fdiv d), .int b]], R t) := fun d d0 d9 e he _ hd => by
          have ed : c.fdiv d = e := by rw [he]; exact Int.mul_fdiv_cancel_left _ (by omega)
          rw [ed]
          refine ⟨divOk (by omega) (n := 4) (by omega) (by decide), List.cons_ne_nil _ _, ?_⟩
          have e0 : e ≠ 0 := fun z => c0 (by rw [he, z, Int.mul_zero])
          have eb : e.natAbs ≤ 3485 := by
            have : c.natAbs = d.natAbs * e.natAbs := by rw [he, Int.natAbs_mul]
            have := Nat.le_mul_of_pos_left e.natAbs (show 0 < d.natAbs by omega)
            omega
          have f : FormT a b e := by
            rcases hd with rfl | rfl
            · refine formT_zero (x := x) (y := Y) (z := Z) a0 b0 e0 ab bb eb (by omega) ?_
              have : e * (Z * Z) = c := by rw [he, Int.mul_comm]
              rw [this, ← hc, ← Int.mul_assoc, ← Int.mul_assoc]
              omega
            · refine formT_zero (x := x) (y := Y) (z := 1) a0 b0 e0 ab bb eb (by omega) ?_
              have : e * (1 * 1) = c := by omega
              rw [this, ← hc, ← Int.mul_assoc, ← Int.mul_assoc]
              omega
          simp only [List.forall_mem_cons]
          exact ⟨h _ _ _ f, h _ _ _ (formT_rot f), h _ _ _ (formT_swap f), fun _ m => nomatch m⟩
        have mz : CMulW Z Z := mulOk (n := 2) (m := 2) (by omega) (by omega) (by decide)
        refine ⟨mz, by omega, fun hm => ⟨mz, then_intro ?_⟩, fun _ => then_intro ?_⟩
        · walk_at "dd"
          obtain ⟨k1, k2⟩ := fin (Z * Z) (by omega) (by omega) (c / (Z * Z)) (by
            rw [fmod_pos _ (by omega)] at hm
            have := Int.mul_ediv_add_emod c (Z * Z)
            omega) (fun ⟨_, _, h⟩ => absurd h (by decide)) (.inl rfl)
          exact ⟨k1, k1, k1, k2⟩
        · walk_at "dd"
          obtain ⟨k1, k2⟩ := fin 1 (by omega) (by omega) c (by omega) (fun ⟨_, _, h⟩ => absurd h (by decide)) (.inr rfl)
          exact ⟨k1, k1, k1, k2⟩
  · exact h.elim
local macro_rules | `(tactic| walk_at "d1") => `(tactic| try simp only [dSeq, dSkip, dPass, dRet, dRetN, dDrop, dCond, dAsg, gNm, gTp, dOwn, dOwnL, dPar, dAug, dApp, dExt, dFrz, dFor, dLc, dBreak, dCont, dVar, dC, dOp, dT, dIsi, dNeg, dNot, dTNot, dAnd, dOr, dTAnd, dTOr, dIf, dCh, dNil, dCons, dTup, dLst, dIxO, dB, dCall, dCallW, dItems, dRng1, dRng2, dYes, fnE, startE, startW, startS, dLenO, dLenS, dIxS, dSl, dPt, dNo, wipeE, addD_int, addD_str, addD_tup, addD_lst, subD_int, mulD_int, mulD_tup, mulD_lst, fdivD_int, modD_int, powD_int, shlD_int, shrD_int, andD_int, ltD_int, leD_int, gtD_int, geD_int, eqD_ap, neD_ap, isD_ap, isNotD_ap, isNon_none, isNon_int, isNon_bool, isNon_str, isNon_tup, isNon_lst, isInt_none, isInt_int, isInt_bool, isInt_str, isInt_tup, isInt_lst, isBool_none, isBool_int, isBool_bool, isBool_str, isBool_tup, isBool_lst, isStr_none, isStr_int, isStr_bool, isStr_str, isStr_tup, isStr_lst, isTup_none, isTup_int, isTup_bool, isTup_str, isTup_tup, isTup_lst, isLst_lst, Cnd_true, Cnd_false, Cnd_not, Cnd_dec, asB_bool, forall_const, true_implies, false_implies, implies_true, decide_true, decide_false, Classical.not_not, negD_int, notD_bool, onVal_val, onOwn_own, onDic_dic, onScr_scr, onWv_wv, onInt_int, onTup_tup, onLst_lst, onItems_lst, onItems_tup, frz1_own, frz1_val, frz1_un, ixD_lst, ixD_tup, ixL_int, optD_some, optI_some, absD_int, intD_int, intD_bool, lenD_lst, lenD_tup, lenD_str, tupleD_lst, tupleD_tup, listD_lst, listD_tup, min2D_int, max2D_int, sumD_ints, allD_bls, anyD_bls, slD_lst, slD_tup, slD_str, gNl_nil, gCs_cons, par2_two, seq1_lst, seq1_tup, rng1D_int, rng2D_int, gt_z, gt_s, sp_next_int, set_z, set_s, List.map_cons, List.map_nil, List.length_cons, List.length_nil, List.cons_append, List.nil_append, List.replicate, Nat.reduceAdd, Nat.reduceSub, Nat.zero_add, shaped_int, shaped_bool, shaped_none, shaped_listI, shaped_tupI, shaped_nilL, shaped_nilT, eqv_int, eqv_bool, eqv_str, eqv_none, eqv_list_nil, List.isEmpty_nil, List.isEmpty_cons, Bool.true_eq_false, Bool.false_eq_true, decide_eq_true_eq, and_self, true_and, and_true, not_dec, Bool.not_eq_true', decide_eq_false_iff_not, atI_0, atI_1, atI_2, ite_true, ite_false, if_true, if_false, reduceIte, Bool.not_true, Bool.not_false, not_true_eq_false, not_false_eq_true, List.set_cons_zero, List.set_cons_succ, dPar3, dRev, par3_three, sortedD_ints, revD_tup, two_nat, one_nat, three_nat, dCh3, dOwnC, dPutPar, putPar_two, dZip2, zip2D_lst, zip2D_tup, dPut, isBD_bl, isNotBD_bl, dNewO, dPutO, dSortedO, putKD_int, dPar3O, dParO2, par3O_two, parO2_one, minLD_lst, dKeysW, rdPairs_nil, rdPairs_cons, onPair_ii, inTD_lst, gTl, dAugS, dZip3, zip3D_tup, zip3L_cons, zip3L_nil, revD_lst])
local macro_rules | `(tactic| walk_at "dd") => `(tactic| (walk_at "d1"; repeat (with_reducible (refine then_intro ?_); walk_at "d1")))
/-- how the numbers of Euclid's way shrink -/
structure EuI (K : Nat) (i a b : Nat) : Prop where
  lt : (i = 0 ∧ a * b ≤ K) ∨ b < a
  le : a * b * 2 ^ i ≤ 2 * K
theorem EuI.start (a b : Nat) : EuI (a * b) 0 a b := ⟨.inl ⟨rfl, Nat.le_refl _⟩, by rw [Nat.pow_zero, Nat.mul_one]; omega⟩
theorem EuI.step {K i a b : Nat} (h : EuI K i a b) (hb : 0 < b) : EuI K (i + 1) b (a % b) := by
  obtain ⟨h1, h2⟩ := h
  refine ⟨.inr (Nat.mod_lt _ hb), ?_⟩
  have hm := Nat.mod_lt a hb
  by_cases z : b ≤ a
  · have h3 : 2 * (a % b) ≤ a := by
      have := Nat.div_add_mod a b
      have hq : 1 ≤ a / b := Nat.div_pos z hb
      have := Nat.mul_le_mul_left b hq
      omega
    have h4 : b * (a % b) * 2 ^ (i + 1) = b * (2 * (a % b)) * 2 ^ i := by rw [Nat.pow_succ]; grind
    rw [h4]
    refine Nat.le_trans (Nat.mul_le_mul_right _ (Nat.mul_le_mul_left b h3)) ?_
    rw [Nat.mul_comm b a]
    exact h2
  · rcases h1 with ⟨h1, h3⟩ | h1
    · subst h1
      rw [Nat.mod_eq_of_lt (by omega), Nat.mul_comm b a]
      show a * b * 2 ^ 1 ≤ 2 * K
      omega
    · omega
theorem EuI.fin {K i a b : Nat} (h : EuI K i a b) (hi : 2 * K < 2 ^ i) (h0 : i ≠ 0) : b = 0 := by
  obtain ⟨h1, h2⟩ := h
  rcases h1 with h1 | h1
  · exact absurd h1.1 h0
  · rcases Nat.eq_zero_or_pos b with z | z
    · exact z
    · have h3 : 1 ≤ a * b := Nat.mul_pos (by omega) z
      have := Nat.mul_le_mul_right (2 ^ i) h3
      omega
local macro_rules | `(tactic| walk_at "d1") => `(tactic| try simp only [dSeq, dSkip, dPass, dRet, dRetN, dDrop, dCond, dAsg, gNm, gTp, dOwn, dOwnL, dPar, dAug, dApp, dExt, dFrz, dFor, dLc, dBreak, dCont, dVar, dC, dOp, dT, dIsi, dNeg, dNot, dTNot, dAnd, dOr, dTAnd, dTOr, dIf, dCh, dNil, dCons, dTup, dLst, dIxO, dB, dCall, dCallW, dItems, dRng1, dRng2, dYes, fnE, startE, startW, startS, dLenO, dLenS, dIxS, dSl, dPt, dNo, wipeE, addD_int, addD_str, addD_tup, addD_lst, subD_int, mulD_int, mulD_tup, mulD_lst, fdivD_int, modD_int, powD_int, shlD_int, shrD_int, andD_int, ltD_int, leD_int, gtD_int, geD_int, eqD_ap, neD_ap, isD_ap, isNotD_ap, isNon_none, isNon_int, isNon_bool, isNon_str, isNon_tup, isNon_lst, isInt_none, isInt_int, isInt_bool, isInt_str, isInt_tup, isInt_lst, isBool_none, isBool_int, isBool_bool, isBool_str, isBool_tup, isBool_lst, isStr_none, isStr_int, isStr_bool, isStr_str, isStr_tup, isStr_lst, isTup_none, isTup_int, isTup_bool, isTup_str, isTup_tup, isTup_lst, isLst_lst, Cnd_true, Cnd_false, Cnd_not, Cnd_dec, asB_bool, forall_const, true_implies, false_implies, implies_true, decide_true, decide_false, Classical.not_not, negD_int, notD_bool, onVal_val, onOwn_own, onDic_dic, onScr_scr, onWv_wv, onInt_int, onTup_tup, onLst_lst, onItems_lst, onItems_tup, frz1_own, frz1_val, frz1_un, ixD_lst, ixD_tup, ixL_int, optD_some, optI_some, absD_int, intD_int, intD_bool, lenD_lst, lenD_tup, lenD_str, tupleD_lst, tupleD_tup, listD_lst, listD_tup, min2D_int, max2D_int, sumD_ints, allD_bls, anyD_bls, slD_lst, slD_tup, slD_str, gNl_nil, gCs_cons, par2_two, seq1_lst, seq1_tup, rng1D_int, rng2D_int, gt_z, gt_s, sp_next_int, set_z, set_s, List.map_cons, List.map_nil, List.length_cons, List.length_nil, List.cons_append, List.nil_append, List.replicate, Nat.reduceAdd, Nat.reduceSub, Nat.zero_add, shaped_int, shaped_bool, shaped_none, shaped_listI, shaped_tupI, shaped_nilL, shaped_nilT, eqv_int, eqv_bool, eqv_str, eqv_none, eqv_list_nil, List.isEmpty_nil, List.isEmpty_cons, Bool.true_eq_false, Bool.false_eq_true, decide_eq_true_eq, and_self, true_and, and_true, not_dec, Bool.not_eq_true', decide_eq_false_iff_not, atI_0, atI_1, atI_2, ite_true, ite_false, if_true, if_false, reduceIte, Bool.not_true, Bool.not_false, not_true_eq_false, not_false_eq_true, List.set_cons_zero, List.set_cons_succ, dPar3, dRev, par3_three, sortedD_ints, revD_tup, two_nat, one_nat, three_nat, dCh3, dOwnC, dPutPar, putPar_two, dZip2, zip2D_lst, zip2D_tup, dPut, isBD_bl, isNotBD_bl, dNewO, dPutO, dSortedO, putKD_int, dPar3O, dParO2, par3O_two, parO2_one, minLD_lst, dKeysW, rdPairs_nil, rdPairs_cons, onPair_ii, inTD_lst, gTl, dAugS, dZip3, zip3D_tup, zip3L_cons, zip3L_nil, revD_lst])
local macro_rules | `(tactic| walk_at "dd") => `(tactic| (walk_at "d1"; repeat (with_reducible (refine then_intro ?_); walk_at "d1")))
def rd_law_common_v2_b1 : DTS :=
  (dSeq (dCond (dT (dOp eqD (dVar 1) (dC (.int 0)))) dBreak dSkip) (dPar 0 1 (dCons (dVar 1) (dCons (dOp modD (dB intD (dCons (dVar 0) dNil)) (dVar 1)) dNil))))
def rd_law_common_v2 : DTS :=
  (dSeq (dPar 0 1 (dCons (dB absD (dCons (dVar 0) dNil)) (dCons (dB absD (dCons (dVar 1) dNil)) dNil))) (dSeq (dFor (dRng1 (dCons (dC (.int 999)) dNil)) (gNm 2) rd_law_common_v2_b1) (dRet (dVar 0))))
def sp_law_common_v2 : Lay.Spec := fun ds R => match ds with
  | [.int a, .int b] => (a.natAbs < 2 ^ 480 ∧ b.natAbs < 2 ^ 480) ∧ R (.int (Int.gcd a b : Nat))
  | _ => False
theorem ok_law_common_v2 : ∀ ds R, sp_law_common_v2 ds R → rd_law_common_v2 (fnE R) (startE 3 ds) := by
  intro ds R h
  unfold sp_law_common_v2 at h
  split at h
  · rename_i a b
    obtain ⟨⟨ha, hb⟩, h⟩ := h
    have hK : 2 * (a.natAbs * b.natAbs) < 2 ^ 999 := by
      have h1 : a.natAbs * b.natAbs ≤ 2 ^ 480 * 2 ^ 480 := Nat.mul_le_mul (by omega) (by omega)
      rw [← Nat.pow_add] at h1
      have h2 : 2 ^ (480 + 480) * 2 < 2 ^ 999 := by rw [← Nat.pow_succ]; exact Nat.pow_lt_pow_right (by decide) (by decide)
      omega
    unfold rd_law_common_v2
    walk_at "dd"
    refine ⟨by decide, ?_⟩
    refine for_byB (fun (s : Nat × Nat × Sl) => [.val (.int s.1), .val (.int s.2.1), s.2.2]) (fun i s => Nat.gcd s.1 s.2.1 = Int.gcd a b ∧ EuI (a.natAbs * b.natAbs) i s.1 s.2.1) (a.natAbs, b.natAbs, .un) rfl ⟨rfl, EuI.start _ _⟩ ?_ ?_
    · rintro i d hd ⟨x, y, u⟩ ⟨hg, he⟩
      simp only at hg he
      unfold rd_law_common_v2_b1
      walk_at "dd"
      refine ⟨fun z => ?_, fun z => ?_⟩
      · have : y = 0 := by omega
        subst this
        walk_at "dd"
        rw [show x = Int.gcd a b by rw [← hg]; exact (Nat.gcd_zero_right x).symm]
        exact h
      · have hy : 0 < y := by omega
        walk_at "dd"
        refine ⟨by omega, (y, x % y, .val d), ?_, ?_, he.step hy⟩
        · rw [nat_fmod _ _ hy]
        · show Nat.gcd y (x % y) = _
          rw [← hg, Nat.gcd_comm y, ← Nat.gcd_rec, Nat.gcd_comm]
    · rintro ⟨x, y, u⟩ ⟨hg, he⟩
      simp only [rangeD_length] at hg he
      have hy := he.fin hK (by decide)
      subst hy
      walk_at "dd"
      rw [show x = Int.gcd a b by rw [← hg]; exact (Nat.gcd_zero_right x).symm]
      exact h
  · exact h.elim
theorem spx_law_common_v2 {a b : Int} {R : D → Prop} : sp_law_common_v2 [.int a, .int b] R = ((a.natAbs < 2 ^ 480 ∧ b.natAbs < 2 ^ 480) ∧ R (.int (Int.gcd a b : Nat))) := rfl
local macro_rules | `(tactic| walk_at "d1") => `(tactic| try simp only [dSeq, dSkip, dPass, dRet, dRetN, dDrop, dCond, dAsg, gNm, gTp, dOwn, dOwnL, dPar, dAug, dApp, dExt, dFrz, dFor, dLc, dBreak, dCont, dVar, dC, dOp, dT, dIsi, dNeg, dNot, dTNot, dAnd, dOr, dTAnd, dTOr, dIf, dCh, dNil, dCons, dTup, dLst, dIxO, dB, dCall, dCallW, dItems, dRng1, dRng2, dYes, fnE, startE, startW, startS, dLenO, dLenS, dIxS, dSl, dPt, dNo, wipeE, addD_int, addD_str, addD_tup, addD_lst, subD_int, mulD_int, mulD_tup, mulD_lst, fdivD_int, modD_int, powD_int, shlD_int, shrD_int, andD_int, ltD_int, leD_int, gtD_int, geD_int, eqD_ap, neD_ap, isD_ap, isNotD_ap, isNon_none, isNon_int, isNon_bool, isNon_str, isNon_tup, isNon_lst, isInt_none, isInt_int, isInt_bool, isInt_str, isInt_tup, isInt_lst, isBool_none, isBool_int, isBool_bool, isBool_str, isBool_tup, isBool_lst, isStr_none, isStr_int, isStr_bool, isStr_str, isStr_tup, isStr_lst, isTup_none, isTup_int, isTup_bool, isTup_str, isTup_tup, isTup_lst, isLst_lst, Cnd_true, Cnd_false, Cnd_not, Cnd_dec, asB_bool, forall_const, true_implies, false_implies, implies_true, decide_true, decide_false, Classical.not_not, negD_int, notD_bool, onVal_val, onOwn_own, onDic_dic, onScr_scr, onWv_wv, onInt_int, onTup_tup, onLst_lst, onItems_lst, onItems_tup, frz1_own, frz1_val, frz1_un, ixD_lst, ixD_tup, ixL_int, optD_some, optI_some, absD_int, intD_int, intD_bool, lenD_lst, lenD_tup, lenD_str, tupleD_lst, tupleD_tup, listD_lst, listD_tup, min2D_int, max2D_int, sumD_ints, allD_bls, anyD_bls, slD_lst, slD_tup, slD_str, gNl_nil, gCs_cons, par2_two, seq1_lst, seq1_tup, rng1D_int, rng2D_int, gt_z, gt_s, sp_next_int, set_z, set_s, List.map_cons, List.map_nil, List.length_cons, List.length_nil, List.cons_append, List.nil_append, List.replicate, Nat.reduceAdd, Nat.reduceSub, Nat.zero_add, shaped_int, shaped_bool, shaped_none, shaped_listI, shaped_tupI, shaped_nilL, shaped_nilT, eqv_int, eqv_bool, eqv_str, eqv_none, eqv_list_nil, List.isEmpty_nil, List.isEmpty_cons, Bool.true_eq_false, Bool.false_eq_true, decide_eq_true_eq, and_self, true_and, and_true, not_dec, Bool.not_eq_true', decide_eq_false_iff_not, atI_0, atI_1, atI_2, ite_true, ite_false, if_true, if_false, reduceIte, Bool.not_true, Bool.not_false, not_true_eq_false, not_false_eq_true, List.set_cons_zero, List.set_cons_succ, dPar3, dRev, par3_three, sortedD_ints, revD_tup, two_nat, one_nat, three_nat, dCh3, dOwnC, dPutPar, putPar_two, dZip2, zip2D_lst, zip2D_tup, dPut, isBD_bl, isNotBD_bl, dNewO, dPutO, dSortedO, putKD_int, dPar3O, dParO2, par3O_two, parO2_one, minLD_lst, dKeysW, rdPairs_nil, rdPairs_cons, onPair_ii, inTD_lst, gTl, dAugS, dZip3, zip3D_tup, zip3L_cons, zip3L_nil, revD_lst])
local macro_rules | `(tactic| walk_at "dd") => `(tactic| (walk_at "d1"; repeat (with_reducible (refine then_intro ?_); walk_at "d1")))
/-- the odd part (0 of 0) and how many twos -/
def strip (a : Nat) : Nat × Nat := if h : a ≠ 0 ∧ a % 2 = 0 then ((strip (a / 2)).1, (strip (a / 2)).2 + 1) else (a, 0)
termination_by a
decreasing_by all_goals omega
theorem strip_even {a : Nat} (h0 : a ≠ 0) (h : a % 2 = 0) : strip a = ((strip (a / 2)).1, (strip (a / 2)).2 + 1) := by rw [strip]; exact dif_pos ⟨h0, h⟩
theorem strip_odd {a : Nat} (h : ¬ (a ≠ 0 ∧ a % 2 = 0)) : strip a = (a, 0) := by rw [strip]; exact dif_neg h
theorem strip_le : ∀ a : Nat, (strip a).1 ≤ a := by
  intro a
  induction a using Nat.strongRecOn with
  | _ a ih =>
    by_cases h : a ≠ 0 ∧ a % 2 = 0
    · rw [strip_even h.1 h.2]
      have := ih (a / 2) (by omega)
      show (strip (a / 2)).1 ≤ a
      omega
    · rw [strip_odd h]
      exact Nat.le_refl _
theorem strip_is : ∀ a : Nat, (strip a).1 = 0 ∨ (strip a).1 % 2 = 1 := by
  intro a
  induction a using Nat.strongRecOn with
  | _ a ih =>
    by_cases h : a ≠ 0 ∧ a % 2 = 0
    · rw [strip_even h.1 h.2]
      exact ih (a / 2) (by omega)
    · rw [strip_odd h]
      show a = 0 ∨ a % 2 = 1
      omega
theorem strip_zero {a : Nat} : (strip a).1 = 0 ↔ a = 0 := by
  induction a using Nat.strongRecOn with
  | _ a ih =>
    by_cases h : a ≠ 0 ∧ a % 2 = 0
    · rw [strip_even h.1 h.2]
      have := ih (a / 2) (by omega)
      show (strip (a / 2)).1 = 0 ↔ a = 0
      omega
    · rw [strip_odd h]
theorem strip_eq : ∀ a : Nat, a = (strip a).1 * 2 ^ (strip a).2 := by
  intro a
  induction a using Nat.strongRecOn with
  | _ a ih =>
    by_cases h : a ≠ 0 ∧ a % 2 = 0
    · rw [strip_even h.1 h.2]
      have := ih (a / 2) (by omega)
      show a = (strip (a / 2)).1 * 2 ^ ((strip (a / 2)).2 + 1)
      rw [Nat.pow_succ, ← Nat.mul_assoc, ← this]
      omega
    · rw [strip_odd h]
      show a = a * 1
      omega
theorem strip_twos_le (a : Nat) : (strip a).2 ≤ a := by
  induction a using Nat.strongRecOn with
  | _ a ih =>
    by_cases h : a ≠ 0 ∧ a % 2 = 0
    · rw [strip_even h.1 h.2]
      have := ih (a / 2) (by omega)
      show (strip (a / 2)).2 + 1 ≤ a
      omega
    · rw [strip_odd h]
      exact Nat.zero_le _
/-- what t twos do, what changing places does -/
def twoSign (t n : Nat) : Int := if t % 2 = 1 ∧ (n % 8 = 3 ∨ n % 8 = 5) then -1 else 1
def swapSign (a n : Nat) : Int := if a % 4 = 3 ∧ n % 4 = 3 then -1 else 1
theorem twoSign_succ (t n : Nat) : twoSign (t + 1) n = (if n % 8 = 3 ∨ n % 8 = 5 then -1 else 1) * twoSign t n := by
  unfold twoSign
  by_cases h : n % 8 = 3 ∨ n % 8 = 5
  · rcases (show t % 2 = 0 ∨ t % 2 = 1 by omega) with e | e
    · have : (t + 1) % 2 = 1 := by omega
      simp [h, e, this]
    · have : (t + 1) % 2 = 0 := by omega
      simp [h, e, this]
  · simp [h]
theorem twoSign_zero (n : Nat) : twoSign 0 n = 1 := by simp [twoSign]
/-- the mark of a, that is below n -/
def jac (a n : Nat) : Int := if h : a = 0 then (if n = 1 then 1 else 0) else twoSign (strip a).2 n * swapSign (strip a).1 n * jac (n % (strip a).1) (strip a).1
termination_by a
decreasing_by
  have h1 := strip_le a
  have h2 : (strip a).1 ≠ 0 := fun z => h (strip_zero.mp z)
  exact Nat.lt_of_lt_of_le (Nat.mod_lt _ (by omega)) h1
theorem jac_zero (n : Nat) : jac 0 n = if n = 1 then 1 else 0 := by rw [jac]; exact dif_pos rfl
theorem jac_step {a n : Nat} (h : a ≠ 0) : jac a n = twoSign (strip a).2 n * swapSign (strip a).1 n * jac (n % (strip a).1) (strip a).1 := by rw [jac]; exact dif_neg h
/-- the pairs that are come to -/
def markSteps (a n : Nat) : List (Nat × Nat) := (a, n) :: (if h : 1 < a then markSteps (strip (n % a)).1 a else [])
termination_by a
decreasing_by exact Nat.lt_of_le_of_lt (strip_le _) (Nat.mod_lt _ (by omega))
theorem markSteps_end {a n : Nat} (h : ¬ 1 < a) : markSteps a n = [(a, n)] := by rw [markSteps, dif_neg h]
theorem markSteps_more {a n : Nat} (h : 1 < a) : markSteps a n = (a, n) :: markSteps (strip (n % a)).1 a := by rw [markSteps, dif_pos h]
theorem markSteps_len (a n : Nat) : (markSteps a n).length ≤ a + 1 := by
  induction a using Nat.strongRecOn generalizing n with
  | _ a ih =>
    by_cases h : 1 < a
    · rw [markSteps_more h]
      have h1 : (strip (n % a)).1 < a := Nat.lt_of_le_of_lt (strip_le _) (Nat.mod_lt _ (by omega))
      have := ih _ h1 a
      simp only [List.length_cons]
      omega
    · rw [markSteps_end h]
      simp
def pairD (p : Nat × Nat) : PyData := .tuple [.int p.1, .int p.2]
local macro_rules | `(tactic| walk_at "d1") => `(tactic| try simp only [dSeq, dSkip, dPass, dRet, dRetN, dDrop, dCond, dAsg, gNm, gTp, dOwn, dOwnL, dPar, dAug, dApp, dExt, dFrz, dFor, dLc, dBreak, dCont, dVar, dC, dOp, dT, dIsi, dNeg, dNot, dTNot, dAnd, dOr, dTAnd, dTOr, dIf, dCh, dNil, dCons, dTup, dLst, dIxO, dB, dCall, dCallW, dItems, dRng1, dRng2, dYes, fnE, startE, startW, startS, dLenO, dLenS, dIxS, dSl, dPt, dNo, wipeE, addD_int, addD_str, addD_tup, addD_lst, subD_int, mulD_int, mulD_tup, mulD_lst, fdivD_int, modD_int, powD_int, shlD_int, shrD_int, andD_int, ltD_int, leD_int, gtD_int, geD_int, eqD_ap, neD_ap, isD_ap, isNotD_ap, isNon_none, isNon_int, isNon_bool, isNon_str, isNon_tup, isNon_lst, isInt_none, isInt_int, isInt_bool, isInt_str, isInt_tup, isInt_lst, isBool_none, isBool_int, isBool_bool, isBool_str, isBool_tup, isBool_lst, isStr_none, isStr_int, isStr_bool, isStr_str, isStr_tup, isStr_lst, isTup_none, isTup_int, isTup_bool, isTup_str, isTup_tup, isTup_lst, isLst_lst, Cnd_true, Cnd_false, Cnd_not, Cnd_dec, asB_bool, forall_const, true_implies, false_implies, implies_true, decide_true, decide_false, Classical.not_not, negD_int, notD_bool, onVal_val, onOwn_own, onDic_dic, onScr_scr, onWv_wv, onInt_int, onTup_tup, onLst_lst, onItems_lst, onItems_tup, frz1_own, frz1_val, frz1_un, ixD_lst, ixD_tup, ixL_int, optD_some, optI_some, absD_int, intD_int, intD_bool, lenD_lst, lenD_tup, lenD_str, tupleD_lst, tupleD_tup, listD_lst, listD_tup, min2D_int, max2D_int, sumD_ints, allD_bls, anyD_bls, slD_lst, slD_tup, slD_str, gNl_nil, gCs_cons, par2_two, seq1_lst, seq1_tup, rng1D_int, rng2D_int, gt_z, gt_s, sp_next_int, set_z, set_s, List.map_cons, List.map_nil, List.length_cons, List.length_nil, List.cons_append, List.nil_append, List.replicate, Nat.reduceAdd, Nat.reduceSub, Nat.zero_add, shaped_int, shaped_bool, shaped_none, shaped_listI, shaped_tupI, shaped_nilL, shaped_nilT, eqv_int, eqv_bool, eqv_str, eqv_none, eqv_list_nil, List.isEmpty_nil, List.isEmpty_cons, Bool.true_eq_false, Bool.false_eq_true, decide_eq_true_eq, and_self, true_and, and_true, not_dec, Bool.not_eq_true', decide_eq_false_iff_not, atI_0, atI_1, atI_2, ite_true, ite_false, if_true, if_false, reduceIte, Bool.not_true, Bool.not_false, not_true_eq_false, not_false_eq_true, List.set_cons_zero, List.set_cons_succ, dPar3, dRev, par3_three, sortedD_ints, revD_tup, two_nat, one_nat, three_nat, dCh3, dOwnC, dPutPar, putPar_two, dZip2, zip2D_lst, zip2D_tup, dPut, isBD_bl, isNotBD_bl, dNewO, dPutO, dSortedO, putKD_int, dPar3O, dParO2, par3O_two, parO2_one, minLD_lst, dKeysW, rdPairs_nil, rdPairs_cons, onPair_ii, inTD_lst, gTl, dAugS, dZip3, zip3D_tup, zip3L_cons, zip3L_nil, revD_lst])
local macro_rules | `(tactic| walk_at "dd") => `(tactic| (walk_at "d1"; repeat (with_reducible (refine then_intro ?_); walk_at "d1")))
/-- the least divisor from d on (n, if none is below it) -/
def minFrom (n d : Nat) : Nat := if h : d < n ∧ n % d ≠ 0 then minFrom n (d + 1) else (if d < n then d else n)
termination_by n - d
decreasing_by omega
def minFac (n : Nat) : Nat := minFrom n 2
theorem minFrom_next {n d : Nat} (h1 : d < n) (h2 : n % d ≠ 0) : minFrom n d = minFrom n (d + 1) := by
  rw [minFrom]
  exact dif_pos ⟨h1, h2⟩
theorem minFrom_here {n d : Nat} (h1 : d < n) (h2 : n % d = 0) : minFrom n d = d := by
  rw [minFrom, dif_neg (fun z => z.2 h2), if_pos h1]
theorem minFrom_end {n d : Nat} (h1 : ¬ d < n) : minFrom n d = n := by
  rw [minFrom, dif_neg (fun z => h1 z.1), if_neg h1]
/-- what it is: p is it if p divides and nothing from d to below p does -/
theorem minFrom_is {n p : Nat} (hp : p ∣ n) (hn : 0 < n) : ∀ {k d : Nat}, p - d = k → d ≤ p → (∀ e, d ≤ e → e < p → ¬ e ∣ n) → minFrom n d = p := by
  intro k
  induction k with
  | zero =>
    intro d hk hd h
    have e : d = p := by omega
    subst e
    by_cases hlt : d < n
    · exact minFrom_here hlt (Nat.mod_eq_zero_of_dvd hp)
    · rw [minFrom_end hlt]
      have := Nat.le_of_dvd hn hp
      omega
  | succ k ih =>
    intro d hk hd h
    have hpn := Nat.le_of_dvd hn hp
    rw [minFrom_next (by omega) (fun z => h d (Nat.le_refl _) (by omega) (Nat.dvd_of_mod_eq_zero z))]
    exact ih (by omega) (by omega) fun e he => h e (by omega)
theorem minFac_is {n p : Nat} (h2 : 2 ≤ p) (hn : 0 < n) (hp : p ∣ n) (h : ∀ e, 2 ≤ e → e < p → ¬ e ∣ n) : minFac n = p := minFrom_is hp hn rfl h2 h
theorem minFrom_spec {n : Nat} : ∀ {k d : Nat}, n - d = k → d ≤ n → minFrom n d ∣ n ∧ d ≤ minFrom n d ∧ ∀ e, d ≤ e → e < minFrom n d → ¬ e ∣ n := by
  intro k
  induction k with
  | zero =>
    intro d hk hd
    have e : d = n := by omega
    rw [minFrom_end (by omega)]
    exact ⟨Nat.dvd_refl _, hd, fun e h1 h2 => absurd h2 (by omega)⟩
  | succ k ih =>
    intro d hk hd
    by_cases h : n % d = 0
    · rw [minFrom_here (by omega) h]
      exact ⟨Nat.dvd_of_mod_eq_zero h, Nat.le_refl _, fun e h1 h2 => absurd h2 (by omega)⟩
    · rw [minFrom_next (by omega) h]
      obtain ⟨h1, h2, h3⟩ := ih (d := d + 1) (by omega) (by omega)
      refine ⟨h1, by omega, fun e he1 he2 => ?_⟩
      by_cases e3 : e = d
      · subst e3
        exact fun z => h (Nat.mod_eq_zero_of_dvd z)
      · exact h3 e (by omega) he2
theorem minFac_spec {n : Nat} (h : 2 ≤ n) : minFac n ∣ n ∧ 2 ≤ minFac n ∧ ∀ e, 2 ≤ e → e < minFac n → ¬ e ∣ n := minFrom_spec rfl h
/-- p taken out of n: what is left and how often -/
def takeOut (p n : Nat) : Nat × Nat := if h : 2 ≤ p ∧ 0 < n ∧ n % p = 0 then ((takeOut p (n / p)).1, (takeOut p (n / p)).2 + 1) else (n, 0)
termination_by n
decreasing_by all_goals exact Nat.div_lt_self h.2.1 h.1
theorem takeOut_more {p n : Nat} (hp : 2 ≤ p) (hn : 0 < n) (h : n % p = 0) : takeOut p n = ((takeOut p (n / p)).1, (takeOut p (n / p)).2 + 1) := by rw [takeOut]; exact dif_pos ⟨hp, hn, h⟩
theorem takeOut_none {p n : Nat} (h : n % p ≠ 0) : takeOut p n = (n, 0) := by rw [takeOut]; exact dif_neg fun z => h z.2.2
theorem takeOut_spec {p : Nat} (hp : 2 ≤ p) : ∀ n : Nat, 0 < n → n = (takeOut p n).1 * p ^ (takeOut p n).2 ∧ 0 < (takeOut p n).1 ∧ (takeOut p n).1 % p ≠ 0 := by
  intro n
  induction n using Nat.strongRecOn with
  | _ n ih =>
    intro hn
    by_cases h : n % p = 0
    · have hq : 0 < n / p := Nat.div_pos (Nat.le_of_dvd hn (Nat.dvd_of_mod_eq_zero h)) (by omega)
      obtain ⟨h1, h2, h3⟩ := ih (n / p) (Nat.div_lt_self hn hp) hq
      rw [takeOut_more hp hn h]
      refine ⟨?_, h2, h3⟩
      show n = (takeOut p (n / p)).1 * p ^ ((takeOut p (n / p)).2 + 1)
      rw [Nat.pow_succ, ← Nat.mul_assoc, ← h1]
      exact (Nat.div_mul_cancel (Nat.dvd_of_mod_eq_zero h)).symm
    · rw [takeOut_none h]
      exact ⟨by simp, hn, h⟩
theorem takeOut_lt {p n : Nat} (hp : 2 ≤ p) (hn : 0 < n) (h : p ∣ n) : (takeOut p n).1 < n ∧ 1 ≤ (takeOut p n).2 ∧ (takeOut p n).1 * 2 ≤ n := by
  have hm := Nat.mod_eq_zero_of_dvd h
  have hq : 0 < n / p := Nat.div_pos (Nat.le_of_dvd hn h) (by omega)
  rw [takeOut_more hp hn hm]
  obtain ⟨h1, h2, h3⟩ := takeOut_spec hp (n / p) hq
  have h4 : (takeOut p (n / p)).1 ≤ n / p := by
    conv => rhs; rw [h1]
    exact Nat.le_mul_of_pos_right _ (Nat.pow_pos (by omega))
  have h5 : n / p * 2 ≤ n := by
    have := Nat.div_mul_le_self n p
    have := Nat.mul_le_mul_left (n / p) hp
    omega
  refine ⟨?_, Nat.le_add_left _ _, ?_⟩
  · show (takeOut p (n / p)).1 < n
    omega
  · show (takeOut p (n / p)).1 * 2 ≤ n
    omega
/-- the parts: the primes and how often they divide -/
def fac (n : Nat) : List (Nat × Nat) := if h : 2 ≤ n then (minFac n, (takeOut (minFac n) n).2) :: fac (takeOut (minFac n) n).1 else []
termination_by n
decreasing_by exact (takeOut_lt (minFac_spec h).2.1 (by omega) (minFac_spec h).1).1
theorem fac_small {n : Nat} (h : ¬ 2 ≤ n) : fac n = [] := by rw [fac]; exact dif_neg h
theorem fac_more {n : Nat} (h : 2 ≤ n) : fac n = (minFac n, (takeOut (minFac n) n).2) :: fac (takeOut (minFac n) n).1 := by rw [fac]; exact dif_pos h
theorem fac_len : ∀ n : Nat, 0 < n → 2 ^ (fac n).length ≤ n := by
  intro n
  induction n using Nat.strongRecOn with
  | _ n ih =>
    intro hn
    by_cases h : 2 ≤ n
    · obtain ⟨h1, h2, h3⟩ := minFac_spec h
      obtain ⟨t1, t2, t3⟩ := takeOut_lt h2 hn h1
      rw [fac_more h, List.length_cons, Nat.pow_succ]
      have := ih _ t1 (takeOut_spec h2 n hn).2.1
      omega
    · rw [fac_small h]
      exact hn
theorem dvd_takeOut {p e n : Nat} (hp : 2 ≤ p) (hn : 0 < n) (h : e ∣ (takeOut p n).1) : e ∣ n := by
  obtain ⟨h1, _⟩ := takeOut_spec hp n hn
  rw [h1]
  exact Nat.dvd_trans h (Nat.dvd_mul_right _ _)
local macro_rules | `(tactic| walk_at "d1") => `(tactic| try simp only [dSeq, dSkip, dPass, dRet, dRetN, dDrop, dCond, dAsg, gNm, gTp, dOwn, dOwnL, dPar, dAug, dApp, dExt, dFrz, dFor, dLc, dBreak, dCont, dVar, dC, dOp, dT, dIsi, dNeg, dNot, dTNot, dAnd, dOr, dTAnd, dTOr, dIf, dCh, dNil, dCons, dTup, dLst, dIxO, dB, dCall, dCallW, dItems, dRng1, dRng2, dYes, fnE, startE, startW, startS, dLenO, dLenS, dIxS, dSl, dPt, dNo, wipeE, addD_int, addD_str, addD_tup, addD_lst, subD_int, mulD_int, mulD_tup, mulD_lst, fdivD_int, modD_int, powD_int, shlD_int, shrD_int, andD_int, ltD_int, leD_int, gtD_int, geD_int, eqD_ap, neD_ap, isD_ap, isNotD_ap, isNon_none, isNon_int, isNon_bool, isNon_str, isNon_tup, isNon_lst, isInt_none, isInt_int, isInt_bool, isInt_str, isInt_tup, isInt_lst, isBool_none, isBool_int, isBool_bool, isBool_str, isBool_tup, isBool_lst, isStr_none, isStr_int, isStr_bool, isStr_str, isStr_tup, isStr_lst, isTup_none, isTup_int, isTup_bool, isTup_str, isTup_tup, isTup_lst, isLst_lst, Cnd_true, Cnd_false, Cnd_not, Cnd_dec, asB_bool, forall_const, true_implies, false_implies, implies_true, decide_true, decide_false, Classical.not_not, negD_int, notD_bool, onVal_val, onOwn_own, onDic_dic, onScr_scr, onWv_wv, onInt_int, onTup_tup, onLst_lst, onItems_lst, onItems_tup, frz1_own, frz1_val, frz1_un, ixD_lst, ixD_tup, ixL_int, optD_some, optI_some, absD_int, intD_int, intD_bool, lenD_lst, lenD_tup, lenD_str, tupleD_lst, tupleD_tup, listD_lst, listD_tup, min2D_int, max2D_int, sumD_ints, allD_bls, anyD_bls, slD_lst, slD_tup, slD_str, gNl_nil, gCs_cons, par2_two, seq1_lst, seq1_tup, rng1D_int, rng2D_int, gt_z, gt_s, sp_next_int, set_z, set_s, List.map_cons, List.map_nil, List.length_cons, List.length_nil, List.cons_append, List.nil_append, List.replicate, Nat.reduceAdd, Nat.reduceSub, Nat.zero_add, shaped_int, shaped_bool, shaped_none, shaped_listI, shaped_tupI, shaped_nilL, shaped_nilT, eqv_int, eqv_bool, eqv_str, eqv_none, eqv_list_nil, List.isEmpty_nil, List.isEmpty_cons, Bool.true_eq_false, Bool.false_eq_true, decide_eq_true_eq, and_self, true_and, and_true, not_dec, Bool.not_eq_true', decide_eq_false_iff_not, atI_0, atI_1, atI_2, ite_true, ite_false, if_true, if_false, reduceIte, Bool.not_true, Bool.not_false, not_true_eq_false, not_false_eq_true, List.set_cons_zero, List.set_cons_succ, dPar3, dRev, par3_three, sortedD_ints, revD_tup, two_nat, one_nat, three_nat, dCh3, dOwnC, dPutPar, putPar_two, dZip2, zip2D_lst, zip2D_tup, dPut, isBD_bl, isNotBD_bl, dNewO, dPutO, dSortedO, putKD_int, dPar3O, dParO2, par3O_two, parO2_one, minLD_lst, dKeysW, rdPairs_nil, rdPairs_cons, onPair_ii, inTD_lst, gTl, dAugS, dZip3, zip3D_tup, zip3L_cons, zip3L_nil, revD_lst])
local macro_rules | `(tactic| walk_at "dd") => `(tactic| (walk_at "d1"; repeat (with_reducible (refine then_intro ?_); walk_at "d1")))
/-- p taken out of a whole number: what is left and how often -/
def tkI (p : Nat) (n : Int) : Int × Nat := (n.sign * ((takeOut p n.natAbs).1 : Int), (takeOut p n.natAbs).2)
theorem tkI_none {p : Nat} {n : Int} (h : ¬ (p : Int) ∣ n) : tkI p n = (n, 0) := by
  have h' : n.natAbs % p ≠ 0 := fun z => h (Int.ofNat_dvd_left.mpr (Nat.dvd_of_mod_eq_zero z))
  unfold tkI
  rw [takeOut_none h']
  show (n.sign * (n.natAbs : Int), 0) = (n, 0)
  rw [Int.sign_mul_natAbs]
theorem tkI_mul {p : Nat} {q : Int} (hp : 2 ≤ p) (hq : q ≠ 0) : tkI p ((p : Int) * q) = ((tkI p q).1, (tkI p q).2 + 1) := by
  have e1 : ((p : Int) * q).natAbs = p * q.natAbs := by rw [Int.natAbs_mul]; rfl
  have e2 : ((p : Int) * q).sign = q.sign := by rw [Int.sign_mul, Int.sign_eq_one_of_pos (by omega), Int.one_mul]
  have h0 : 0 < q.natAbs := by omega
  have hm := takeOut_more (p := p) (n := p * q.natAbs) hp (Nat.mul_pos (by omega) h0) (Nat.mul_mod_right _ _)
  rw [Nat.mul_div_cancel_left _ (by omega : 0 < p)] at hm
  unfold tkI
  rw [e1, e2, hm]
theorem tkI_div {p : Nat} {n : Int} (hp : 2 ≤ p) (hn : n ≠ 0) (h : (p : Int) ∣ n) : tkI p n = ((tkI p (n / p)).1, (tkI p (n / p)).2 + 1) ∧ n / p ≠ 0 ∧ (n / (p : Int)).natAbs < n.natAbs := by
  obtain ⟨q, rfl⟩ := h
  have hq : q ≠ 0 := fun z => hn (by rw [z, Int.mul_zero])
  have e : (p : Int) * q / (p : Int) = q := Int.mul_ediv_cancel_left q (by omega)
  rw [e]
  refine ⟨tkI_mul hp hq, hq, ?_⟩
  rw [Int.natAbs_mul]
  have : q.natAbs * 2 ≤ (p : Int).natAbs * q.natAbs := by rw [Nat.mul_comm]; exact Nat.mul_le_mul_right _ (by omega)
  omega
theorem tkI_spec {p : Nat} (hp : 2 ≤ p) {n : Int} (hn : n ≠ 0) : n = (tkI p n).1 * (p : Int) ^ (tkI p n).2 ∧ (tkI p n).1 ≠ 0 ∧ ¬ (p : Int) ∣ (tkI p n).1 := by
  obtain ⟨h1, h2, h3⟩ := takeOut_spec hp n.natAbs (by omega)
  have hs : n.sign = 1 ∨ n.sign = -1 := by
    rcases Int.lt_or_lt_of_ne hn with h | h
    · exact .inr (Int.sign_eq_neg_one_of_neg h)
    · exact .inl (Int.sign_eq_one_of_pos h)
  refine ⟨?_, ?_, ?_⟩
  · show n = n.sign * ((takeOut p n.natAbs).1 : Int) * (p : Int) ^ (takeOut p n.natAbs).2
    rw [Int.mul_assoc, ← Int.natCast_pow, ← Int.natCast_mul, ← h1, Int.sign_mul_natAbs]
  · show n.sign * _ ≠ 0
    rcases hs with e | e <;> rw [e] <;> omega
  · show ¬ (p : Int) ∣ n.sign * _
    intro z
    have z' : (p : Int) ∣ ((takeOut p n.natAbs).1 : Int) := by
      rcases hs with e | e
      · rw [e, Int.one_mul] at z; exact z
      · rw [e] at z
        have := Int.dvd_neg.mpr z
        rwa [show -(-1 * ((takeOut p n.natAbs).1 : Int)) = ((takeOut p n.natAbs).1 : Int) by omega] at this
    exact h3 (Nat.mod_eq_zero_of_dvd (Int.natCast_dvd_natCast.mp z'))
theorem tkI_le {p : Nat} (hp : 2 ≤ p) {n : Int} (hn : n ≠ 0) : (tkI p n).1.natAbs ≤ n.natAbs ∧ 2 ^ (tkI p n).2 ≤ n.natAbs := by
  obtain ⟨h1, h2, h3⟩ := tkI_spec hp hn
  have e : n.natAbs = (tkI p n).1.natAbs * p ^ (tkI p n).2 := by
    conv => lhs; rw [h1]
    rw [Int.natAbs_mul, Int.natAbs_pow]
    rfl
  have hp0 : 0 < p ^ (tkI p n).2 := Nat.pow_pos (by omega)
  have ha : 0 < (tkI p n).1.natAbs := by omega
  refine ⟨?_, ?_⟩
  · have := Nat.le_mul_of_pos_right (tkI p n).1.natAbs hp0
    omega
  · have h4 : 2 ^ (tkI p n).2 ≤ p ^ (tkI p n).2 := Nat.pow_le_pow_left hp _
    have := Nat.le_mul_of_pos_left (p ^ (tkI p n).2) ha
    omega
theorem bits_of_pow {v k : Nat} {n : Int} (h : 2 ^ v ≤ n.natAbs) (hb : n.natAbs < 2 ^ k) : v < k :=
  (Nat.pow_lt_pow_iff_right (by decide : 1 < 2)).mp (Nat.lt_of_le_of_lt h hb)
/-- what is to be asked of a prime -/
def PrimeI (p : Nat) : Prop := 2 ≤ p ∧ ∀ r, r < p → r ≠ 0 → Nat.gcd r p = 1
theorem PrimeI.gcd {p : Nat} (h : PrimeI p) {r : Int} (hr : ¬ (p : Int) ∣ r) : Int.gcd r (p : Int) = 1 := by
  have hp : (0 : Int) < p := by have := h.1; omega
  have h0 := Int.emod_nonneg r (show (p : Int) ≠ 0 by omega)
  have h1 := Int.emod_lt_of_pos r hp
  have h2 : r % (p : Int) ≠ 0 := fun z => hr (Int.dvd_of_emod_eq_zero z)
  have := h.2 (r % (p : Int)).toNat (by omega) (by omega)
  have e : Int.gcd (r % (p : Int)) (p : Int) = Int.gcd r p := by
    have e1 : r % (p : Int) = r - r / (p : Int) * (p : Int) := by have := Int.emod_def r (p : Int); rw [this, Int.mul_comm]
    rw [e1, Int.gcd_comm, Int.gcd_sub_mul_right_right, Int.gcd_comm]
  rw [← e]
  show Nat.gcd (r % (p : Int)).natAbs p = 1
  rw [show (r % (p : Int)).natAbs = (r % (p : Int)).toNat by omega]
  exact this
theorem PrimeI.gcd_pow {p : Nat} (h : PrimeI p) {r : Int} (hr : ¬ (p : Int) ∣ r) (k : Nat) : Int.gcd r ((p : Int) ^ k) = 1 := by
  have h1 : Nat.gcd r.natAbs p = 1 := h.gcd hr
  show Nat.gcd r.natAbs ((p : Int) ^ k).natAbs = 1
  rw [Int.natAbs_pow]
  exact Nat.Coprime.pow_right k h1
/-- the answer of a division modulo m is one -/
theorem quot_uniq {r s t u m : Int} (hg : Int.gcd r m = 1) (t0 : 0 ≤ t) (t1 : t < m) (u0 : 0 ≤ u) (u1 : u < m) (ht : m ∣ r * t - s) (hu : m ∣ r * u - s) : t = u := by
  have h1 : m ∣ r * (t - u) := by
    have := Int.dvd_sub ht hu
    rwa [show r * t - s - (r * u - s) = r * (t - u) by grind] at this
  have h2 : m ∣ t - u := by
    have hc : Int.gcd m r = 1 := by rw [Int.gcd_comm]; exact hg
    have hc' : Nat.Coprime m.natAbs r.natAbs := hc
    rw [← Int.natAbs_dvd_natAbs, Int.natAbs_mul] at h1
    exact Int.natAbs_dvd_natAbs.mp (hc'.dvd_of_dvd_mul_left h1)
  obtain ⟨q, hq⟩ := h2
  have hm : 0 < m := by omega
  have hq0 : q = 0 := by
    rcases Int.lt_trichotomy q 0 with z | z | z
    · have := Int.mul_le_mul_of_nonneg_left (show q ≤ -1 by omega) (show 0 ≤ m by omega)
      omega
    · exact z
    · have := Int.mul_le_mul_of_nonneg_left (show 1 ≤ q by omega) (show 0 ≤ m by omega)
      omega
  rw [hq0, Int.mul_zero] at hq
  omega
local macro_rules | `(tactic| walk_at "d1") => `(tactic| try simp only [dSeq, dSkip, dPass, dRet, dRetN, dDrop, dCond, dAsg, gNm, gTp, dOwn, dOwnL, dPar, dAug, dApp, dExt, dFrz, dFor, dLc, dBreak, dCont, dVar, dC, dOp, dT, dIsi, dNeg, dNot, dTNot, dAnd, dOr, dTAnd, dTOr, dIf, dCh, dNil, dCons, dTup, dLst, dIxO, dB, dCall, dCallW, dItems, dRng1, dRng2, dYes, fnE, startE, startW, startS, dLenO, dLenS, dIxS, dSl, dPt, dNo, wipeE, addD_int, addD_str, addD_tup, addD_lst, subD_int, mulD_int, mulD_tup, mulD_lst, fdivD_int, modD_int, powD_int, shlD_int, shrD_int, andD_int, ltD_int, leD_int, gtD_int, geD_int, eqD_ap, neD_ap, isD_ap, isNotD_ap, isNon_none, isNon_int, isNon_bool, isNon_str, isNon_tup, isNon_lst, isInt_none, isInt_int, isInt_bool, isInt_str, isInt_tup, isInt_lst, isBool_none, isBool_int, isBool_bool, isBool_str, isBool_tup, isBool_lst, isStr_none, isStr_int, isStr_bool, isStr_str, isStr_tup, isStr_lst, isTup_none, isTup_int, isTup_bool, isTup_str, isTup_tup, isTup_lst, isLst_lst, Cnd_true, Cnd_false, Cnd_not, Cnd_dec, asB_bool, forall_const, true_implies, false_implies, implies_true, decide_true, decide_false, Classical.not_not, negD_int, notD_bool, onVal_val, onOwn_own, onDic_dic, onScr_scr, onWv_wv, onInt_int, onTup_tup, onLst_lst, onItems_lst, onItems_tup, frz1_own, frz1_val, frz1_un, ixD_lst, ixD_tup, ixL_int, optD_some, optI_some, absD_int, intD_int, intD_bool, lenD_lst, lenD_tup, lenD_str, tupleD_lst, tupleD_tup, listD_lst, listD_tup, min2D_int, max2D_int, sumD_ints, allD_bls, anyD_bls, slD_lst, slD_tup, slD_str, gNl_nil, gCs_cons, par2_two, seq1_lst, seq1_tup, rng1D_int, rng2D_int, gt_z, gt_s, sp_next_int, set_z, set_s, List.map_cons, List.map_nil, List.length_cons, List.length_nil, List.cons_append, List.nil_append, List.replicate, Nat.reduceAdd, Nat.reduceSub, Nat.zero_add, shaped_int, shaped_bool, shaped_none, shaped_listI, shaped_tupI, shaped_nilL, shaped_nilT, eqv_int, eqv_bool, eqv_str, eqv_none, eqv_list_nil, List.isEmpty_nil, List.isEmpty_cons, Bool.true_eq_false, Bool.false_eq_true, decide_eq_true_eq, and_self, true_and, and_true, not_dec, Bool.not_eq_true', decide_eq_false_iff_not, atI_0, atI_1, atI_2, ite_true, ite_false, if_true, if_false, reduceIte, Bool.not_true, Bool.not_false, not_true_eq_false, not_false_eq_true, List.set_cons_zero, List.set_cons_succ, dPar3, dRev, par3_three, sortedD_ints, revD_tup, two_nat, one_nat, three_nat, dCh3, dOwnC, dPutPar, putPar_two, dZip2, zip2D_lst, zip2D_tup, dPut, isBD_bl, isNotBD_bl, dNewO, dPutO, dSortedO, putKD_int, dPar3O, dParO2, par3O_two, parO2_one, minLD_lst, dKeysW, rdPairs_nil, rdPairs_cons, onPair_ii, inTD_lst, gTl, dAugS, dZip3, zip3D_tup, zip3L_cons, zip3L_nil, revD_lst])
local macro_rules | `(tactic| walk_at "dd") => `(tactic| (walk_at "d1"; repeat (with_reducible (refine then_intro ?_); walk_at "d1")))
/-- the value of c0 + c1 x + .. -/
def pval : List Int → Int → Int
  | [], _ => 0
  | c :: cs, x => pval cs x * x + c
def pder : List Int → Int → Int
  | [], _ => 0
  | _ :: cs, x => pval cs x + x * pder cs x
def slopeL : Int → List Int → List Int
  | _, [] => []
  | k, c :: cs => k * c :: slopeL (k + 1) cs
def slope (cs : List Int) : List Int := slopeL 1 cs.tail
theorem slopeL_val : ∀ (cs : List Int) (k x : Int), pval (slopeL k cs) x = k * pval cs x + x * pder cs x
  | [], k, x => by simp [slopeL, pval, pder]
  | c :: cs, k, x => by
    have q := slopeL_val cs (k + 1) x
    simp only [slopeL, pval, pder, q]
    grind
theorem slope_val (cs : List Int) (x : Int) : pval (slope cs) x = pder cs x := by
  cases cs with
  | nil => rfl
  | cons c cs =>
    show pval (slopeL 1 cs) x = _
    rw [slopeL_val, Int.one_mul]
    rfl
theorem slopeL_eq : ∀ (cs : List Int) (k : Int), slopeL k cs = (List.range cs.length).map fun (i : Nat) => (k + (i : Int)) * cs.getD i 0
  | [], k => rfl
  | c :: cs, k => by
    rw [slopeL, slopeL_eq cs (k + 1), List.length_cons, List.range_succ_eq_map, List.map_cons, List.map_map]
    congr 1
    · simp
    · refine List.map_congr_left fun i _ => ?_
      simp only [Function.comp_apply, List.getD_cons_succ]
      rw [show k + 1 + (i : Int) = k + ((i.succ : Nat) : Int) by omega]
theorem slope_len (cs : List Int) : (slope cs).length = cs.length - 1 := by
  unfold slope
  rw [slopeL_eq, List.length_map, List.length_range, List.length_tail]
theorem slope_eq (cs : List Int) : slope cs = (List.range (cs.length - 1)).map fun (i : Nat) => (1 + (i : Int)) * cs.getD (i + 1) 0 := by
  cases cs with
  | nil => rfl
  | cons c cs =>
    show slopeL 1 cs = _
    rw [slopeL_eq]
    rfl
theorem pval_mod {p x y : Int} (h : p ∣ x - y) : ∀ cs : List Int, p ∣ pval cs x - pval cs y
  | [] => by simp [pval]
  | c :: cs => by
    obtain ⟨a, ha⟩ := h
    obtain ⟨b, hb⟩ := pval_mod ⟨a, ha⟩ cs
    refine ⟨b * x + pval cs y * a, ?_⟩
    simp only [pval]
    have e : pval cs x * x + c - (pval cs y * y + c) = (pval cs x - pval cs y) * x + pval cs y * (x - y) := by grind
    rw [e, ha, hb]
    grind
theorem pder_mod {p x y : Int} (h : p ∣ x - y) (cs : List Int) : p ∣ pder cs x - pder cs y := by
  rw [← slope_val, ← slope_val]
  exact pval_mod h _
theorem taylor (x h : Int) : ∀ cs : List Int, ∃ t : Int, pval cs (x + h) = pval cs x + h * pder cs x + h * h * t
  | [] => ⟨0, by simp [pval, pder]⟩
  | c :: cs => by
    obtain ⟨t, ht⟩ := taylor x h cs
    refine ⟨pder cs x + t * x + h * t, ?_⟩
    simp only [pval, pder, ht]
    grind
/-- one lift: q divides the value, then q p divides the next -/
theorem hensel_step {cs : List Int} {p q x x0 b x' : Int} (hq : q ∣ pval cs x) (pq : p ∣ q) (hx : p ∣ x - x0) (hb : p ∣ b * pder cs x0 - 1) (hx' : q * p ∣ x' - (x - pval cs x * b)) : q * p ∣ pval cs x' ∧ p ∣ x' - x0 := by
  obtain ⟨t, ht⟩ := taylor x (-(pval cs x * b)) cs
  have e1 : q * p ∣ pval cs (x - pval cs x * b) := by
    rw [Int.sub_eq_add_neg, ht]
    obtain ⟨v, hv⟩ := hq
    obtain ⟨d, hd⟩ := pder_mod hx cs
    obtain ⟨g, hg⟩ := hb
    obtain ⟨r, hr⟩ := pq
    refine ⟨v * (-(b * d) - g) + v * v * b * b * t * r, ?_⟩
    rw [hv]
    have e2 : pder cs x = pder cs x0 + p * d := by omega
    have e3 : b * pder cs x0 = 1 + p * g := by omega
    have e4 : q * v + -(q * v * b) * (pder cs x0 + p * d) = q * v * (1 - b * pder cs x0) - q * v * b * p * d := by grind
    rw [e2, e4, e3]
    have e5 : -(q * v * b) * -(q * v * b) * t = q * q * (v * v * b * b * t) := by grind
    rw [e5]
    conv => lhs; rhs; rw [show q * q = q * (p * r) by rw [← hr]]
    grind
  have e6 := pval_mod hx' cs
  refine ⟨?_, ?_⟩
  · have := Int.dvd_add e6 e1
    rwa [Int.sub_add_cancel] at this
  · have h1 : p ∣ x' - (x - pval cs x * b) := Int.dvd_trans (Int.dvd_mul_left _ _) hx'
    have h2 : p ∣ pval cs x * b := Int.dvd_mul_of_dvd_left (Int.dvd_trans pq hq)
    have e : x' - x0 = (x' - (x - pval cs x * b)) + ((x - x0) - pval cs x * b) := by omega
    rw [e]
    exact Int.dvd_add h1 (Int.dvd_sub hx h2)
/-- how great the values are -/
structure PolyB (cs : List Int) (x : Int) (b c : Nat) : Prop where
  cb : ∀ a ∈ cs, a.natAbs < 2 ^ b
  xb : x.natAbs < 2 ^ c
  fit : cs.length * (b + c + 1) + b + c ≤ 100000
theorem pval_bits {x : Int} {b c : Nat} (hx : x.natAbs < 2 ^ c) : ∀ {cs : List Int}, (∀ a ∈ cs, a.natAbs < 2 ^ b) → (pval cs x).natAbs < 2 ^ (cs.length * (b + c + 1))
  | [], _ => by show (0 : Int).natAbs < 2 ^ (0 * (b + c + 1)); rw [Nat.zero_mul]; decide
  | a :: cs, h => by
    have q := pval_bits hx (cs := cs) fun z hz => h z (List.mem_cons_of_mem _ hz)
    have := bits_add (bits_mul q hx) (h a List.mem_cons_self)
    refine bits_mono this ?_
    rw [List.length_cons, Nat.succ_mul]
    omega
local macro_rules | `(tactic| walk_at "d1") => `(tactic| try simp only [dSeq, dSkip, dPass, dRet, dRetN, dDrop, dCond, dAsg, gNm, gTp, dOwn, dOwnL, dPar, dAug, dApp, dExt, dFrz, dFor, dLc, dBreak, dCont, dVar, dC, dOp, dT, dIsi, dNeg, dNot, dTNot, dAnd, dOr, dTAnd, dTOr, dIf, dCh, dNil, dCons, dTup, dLst, dIxO, dB, dCall, dCallW, dItems, dRng1, dRng2, dYes, fnE, startE, startW, startS, dLenO, dLenS, dIxS, dSl, dPt, dNo, wipeE, addD_int, addD_str, addD_tup, addD_lst, subD_int, mulD_int, mulD_tup, mulD_lst, fdivD_int, modD_int, powD_int, shlD_int, shrD_int, andD_int, ltD_int, leD_int, gtD_int, geD_int, eqD_ap, neD_ap, isD_ap, isNotD_ap, isNon_none, isNon_int, isNon_bool, isNon_str, isNon_tup, isNon_lst, isInt_none, isInt_int, isInt_bool, isInt_str, isInt_tup, isInt_lst, isBool_none, isBool_int, isBool_bool, isBool_str, isBool_tup, isBool_lst, isStr_none, isStr_int, isStr_bool, isStr_str, isStr_tup, isStr_lst, isTup_none, isTup_int, isTup_bool, isTup_str, isTup_tup, isTup_lst, isLst_lst, Cnd_true, Cnd_false, Cnd_not, Cnd_dec, asB_bool, forall_const, true_implies, false_implies, implies_true, decide_true, decide_false, Classical.not_not, negD_int, notD_bool, onVal_val, onOwn_own, onDic_dic, onScr_scr, onWv_wv, onInt_int, onTup_tup, onLst_lst, onItems_lst, onItems_tup, frz1_own, frz1_val, frz1_un, ixD_lst, ixD_tup, ixL_int, optD_some, optI_some, absD_int, intD_int, intD_bool, lenD_lst, lenD_tup, lenD_str, tupleD_lst, tupleD_tup, listD_lst, listD_tup, min2D_int, max2D_int, sumD_ints, allD_bls, anyD_bls, slD_lst, slD_tup, slD_str, gNl_nil, gCs_cons, par2_two, seq1_lst, seq1_tup, rng1D_int, rng2D_int, gt_z, gt_s, sp_next_int, set_z, set_s, List.map_cons, List.map_nil, List.length_cons, List.length_nil, List.cons_append, List.nil_append, List.replicate, Nat.reduceAdd, Nat.reduceSub, Nat.zero_add, shaped_int, shaped_bool, shaped_none, shaped_listI, shaped_tupI, shaped_nilL, shaped_nilT, eqv_int, eqv_bool, eqv_str, eqv_none, eqv_list_nil, List.isEmpty_nil, List.isEmpty_cons, Bool.true_eq_false, Bool.false_eq_true, decide_eq_true_eq, and_self, true_and, and_true, not_dec, Bool.not_eq_true', decide_eq_false_iff_not, atI_0, atI_1, atI_2, ite_true, ite_false, if_true, if_false, reduceIte, Bool.not_true, Bool.not_false, not_true_eq_false, not_false_eq_true, List.set_cons_zero, List.set_cons_succ, dPar3, dRev, par3_three, sortedD_ints, revD_tup, two_nat, one_nat, three_nat, dCh3, dOwnC, dPutPar, putPar_two, dZip2, zip2D_lst, zip2D_tup, dPut, isBD_bl, isNotBD_bl, dNewO, dPutO, dSortedO, putKD_int, dPar3O, dParO2, par3O_two, parO2_one, minLD_lst, dKeysW, rdPairs_nil, rdPairs_cons, onPair_ii, inTD_lst, gTl, dAugS, dZip3, zip3D_tup, zip3L_cons, zip3L_nil, revD_lst])
local macro_rules | `(tactic| walk_at "dd") => `(tactic| (walk_at "d1"; repeat (with_reducible (refine then_intro ?_); walk_at "d1")))
theorem PrimeI.euclid {p : Nat} (h : PrimeI p) {a b : Int} (d : (p : Int) ∣ a * b) : (p : Int) ∣ a ∨ (p : Int) ∣ b := by
  by_cases z : (p : Int) ∣ a
  · exact .inl z
  · right
    have hg := h.gcd z
    have hc : Nat.Coprime p a.natAbs := by
      show Nat.gcd p a.natAbs = 1
      rw [Nat.gcd_comm]
      exact hg
    rw [← Int.natAbs_dvd_natAbs, Int.natAbs_mul] at d
    exact Int.natAbs_dvd_natAbs.mp (hc.dvd_of_dvd_mul_left d)
theorem PrimeI.pow {p : Nat} (h : PrimeI p) {a : Int} : ∀ n : Nat, (p : Int) ∣ a ^ n → (p : Int) ∣ a
  | 0, d => by
    have := h.1
    rw [Int.pow_zero] at d
    have := Int.le_of_dvd (by decide) d
    omega
  | n + 1, d => by
    rw [Int.pow_succ] at d
    rcases h.euclid d with d | d
    · exact h.pow n d
    · exact d
theorem PrimeI.small {p : Nat} (h : PrimeI p) {a : Int} (h0 : 0 < a) (h1 : a < p) : ¬ (p : Int) ∣ a := fun d => by
  have := Int.le_of_dvd h0 d
  omega
theorem PrimeI.diff {p : Nat} (h : PrimeI p) {a b : Int} (a0 : 0 ≤ a) (a1 : a < p) (b0 : 0 ≤ b) (b1 : b < p) (d : (p : Int) ∣ a - b) : a = b := by
  rcases Int.lt_trichotomy a b with z | z | z
  · have d' : (p : Int) ∣ b - a := by rw [← Int.dvd_neg, Int.neg_sub]; exact d
    exact absurd d' (h.small (by omega) (by omega))
  · exact z
  · exact absurd d (h.small (by omega) (by omega))
/-- x^n goes with x modulo m -/
theorem pow_cong {m a b : Int} (d : m ∣ a - b) : ∀ n : Nat, m ∣ a ^ n - b ^ n
  | 0 => by rw [Int.pow_zero, Int.pow_zero]; exact ⟨0, by omega⟩
  | n + 1 => by
    have ih := pow_cong d n
    have e : a ^ (n + 1) - b ^ (n + 1) = (a ^ n - b ^ n) * a + b ^ n * (a - b) := by grind
    rw [e]
    exact Int.dvd_add (Int.dvd_mul_of_dvd_left ih) (Int.dvd_mul_of_dvd_right d)
/-- division by x - r -/
def quoP (r : Int) : List Int → List Int
  | [] => []
  | [_] => []
  | _ :: c :: cs => pval (c :: cs) r :: quoP r (c :: cs)
theorem quoP_len (r : Int) : ∀ cs, (quoP r cs).length = cs.length - 1
  | [] => rfl
  | [_] => rfl
  | _ :: c :: cs => by
    rw [quoP, List.length_cons, quoP_len r (c :: cs)]
    simp
theorem quoP_val (r x : Int) : ∀ cs, pval cs x - pval cs r = (x - r) * pval (quoP r cs) x
  | [] => by simp [pval, quoP]
  | [c] => by simp [pval, quoP]
  | d :: c :: cs => by
    have ih := quoP_val r x (c :: cs)
    show pval (c :: cs) x * x + d - (pval (c :: cs) r * r + d) = (x - r) * (pval (quoP r (c :: cs)) x * x + pval (c :: cs) r)
    generalize pval (c :: cs) x = A at *
    generalize pval (c :: cs) r = B at *
    generalize pval (quoP r (c :: cs)) x = C at *
    have : A = B + (x - r) * C := by omega
    subst this
    grind
theorem quoP_zero {m r : Int} : ∀ cs, m ∣ pval cs r → (∀ c ∈ quoP r cs, m ∣ c) → ∀ c ∈ cs, m ∣ c
  | [], _, _, c, hc => nomatch hc
  | [d], h, _, c, hc => by
    rw [List.mem_singleton] at hc
    subst hc
    simpa [pval] using h
  | d :: e :: cs, h, hq, c, hc => by
    rw [quoP] at hq
    have h1 : m ∣ pval (e :: cs) r := hq _ List.mem_cons_self
    rcases List.mem_cons.mp hc with rfl | hc
    · rw [pval] at h
      have := Int.dvd_sub h (Int.dvd_mul_of_dvd_left (c := r) h1)
      rwa [show pval (e :: cs) r * r + c - pval (e :: cs) r * r = c by omega] at this
    · exact quoP_zero (e :: cs) h1 (fun c hc => hq c (List.mem_cons_of_mem _ hc)) c hc
/-- not more zeros than the degree -/
theorem lagrange {p : Nat} (hp : PrimeI p) : ∀ (rs cs : List Int), (∀ r ∈ rs, (p : Int) ∣ pval cs r) → rs.Pairwise (fun x y => ¬ (p : Int) ∣ x - y) → cs.length ≤ rs.length → ∀ c ∈ cs, (p : Int) ∣ c
  | [], cs, _, _, hl, c, hc => by
    have := List.length_eq_zero_iff.mp (Nat.le_zero.mp hl)
    subst this
    nomatch hc
  | r :: rs, cs, hr, hd, hl, c, hc => by
    rw [List.pairwise_cons] at hd
    have h0 := hr r List.mem_cons_self
    refine quoP_zero cs h0 (lagrange hp rs (quoP r cs) (fun x hx => ?_) hd.2 ?_) c hc
    · have h1 := hr x (List.mem_cons_of_mem _ hx)
      have h2 := Int.dvd_sub h1 h0
      rw [quoP_val] at h2
      rcases hp.euclid h2 with h2 | h2
      · have := hd.1 x hx
        refine absurd ?_ this
        rw [← Int.dvd_neg, Int.neg_sub]
        exact h2
      · exact h2
    · rw [quoP_len]
      rw [List.length_cons] at hl
      omega
/-- x^n - 1 -/
def powP (n : Nat) : List Int := -1 :: (List.replicate (n - 1) 0 ++ [1])
theorem rep_val (x : Int) : ∀ n : Nat, pval (List.replicate n 0 ++ [1]) x = x ^ n
  | 0 => by simp [pval]
  | n + 1 => by
    rw [List.replicate_succ, List.cons_append, pval, rep_val x n, Int.pow_succ]
    omega
theorem powP_val {n : Nat} (h : 0 < n) (x : Int) : pval (powP n) x = x ^ n - 1 := by
  unfold powP
  rw [pval, rep_val]
  have : x ^ n = x ^ (n - 1) * x := by rw [← Int.pow_succ, Nat.succ_eq_add_one, show n - 1 + 1 = n by omega]
  omega
/-- x^n = 1 has not more than n answers modulo a prime -/
theorem few_roots {p : Nat} (hp : PrimeI p) {n : Nat} (hn : 0 < n) {rs : List Int} (h : ∀ r ∈ rs, (p : Int) ∣ r ^ n - 1) (hd : rs.Pairwise (fun x y => ¬ (p : Int) ∣ x - y)) : rs.length ≤ n := by
  rcases Nat.lt_or_ge n rs.length with z | z
  · exfalso
    have := lagrange hp rs (powP n) (fun r hr => by rw [powP_val hn]; exact h r hr) hd (by unfold powP; simp; omega) 1 (by unfold powP; simp)
    have h1 := Int.le_of_dvd (by decide) this
    have := hp.1
    omega
  · exact z
theorem nodup_perm {α : Type} [DecidableEq α] : ∀ {l l' : List α}, l.Nodup → (∀ x ∈ l, x ∈ l') → l'.length ≤ l.length → l.Perm l'
  | [], l', _, _, h => by
    have := List.length_eq_zero_iff.mp (Nat.le_zero.mp h)
    subst this
    exact .nil
  | a :: l, l', hn, hs, h => by
    rw [List.nodup_cons] at hn
    have ha := hs a List.mem_cons_self
    have hp := List.perm_cons_erase ha
    refine .trans (.cons a (nodup_perm hn.2 (fun x hx => ?_) ?_)) hp.symm
    · exact (List.mem_erase_of_ne (fun e => hn.1 (by rw [← e]; exact hx))).mpr (hs x (List.mem_cons_of_mem _ hx))
    · rw [List.length_erase_of_mem ha]
      rw [List.length_cons] at h
      omega
def prodL (l : List Int) : Int := l.foldr (· * ·) 1
theorem prodL_cons (a : Int) (l : List Int) : prodL (a :: l) = a * prodL l := rfl
theorem prodL_perm {l l' : List Int} (h : l.Perm l') : prodL l = prodL l' := by
  induction h with
  | nil => rfl
  | cons a _ ih => rw [prodL_cons, prodL_cons, ih]
  | swap a b l => simp only [prodL_cons]; grind
  | trans _ _ h1 h2 => rw [h1, h2]
theorem prodL_scale (a : Int) : ∀ l : List Int, prodL (l.map (a * ·)) = a ^ l.length * prodL l
  | [] => by simp [prodL]
  | b :: l => by
    rw [List.map_cons, prodL_cons, prodL_cons, prodL_scale a l, List.length_cons, Int.pow_succ]
    grind
theorem prodL_cong {m : Int} {f g : Int → Int} : ∀ l : List Int, (∀ x ∈ l, m ∣ f x - g x) → m ∣ prodL (l.map f) - prodL (l.map g)
  | [], _ => by simp [prodL]
  | b :: l, h => by
    have h1 := h b List.mem_cons_self
    have h2 := prodL_cong l fun x hx => h x (List.mem_cons_of_mem _ hx)
    rw [List.map_cons, List.map_cons, prodL_cons, prodL_cons]
    generalize prodL (l.map f) = A at *
    generalize prodL (l.map g) = B at *
    have e : f b * A - g b * B = (f b - g b) * A + g b * (A - B) := by grind
    rw [e]
    exact Int.dvd_add (Int.dvd_mul_of_dvd_left h1) (Int.dvd_mul_of_dvd_right h2)
theorem prodL_ndvd {p : Nat} (hp : PrimeI p) : ∀ l : List Int, (∀ x ∈ l, ¬ (p : Int) ∣ x) → ¬ (p : Int) ∣ prodL l
  | [], _ => fun d => by
    have := Int.le_of_dvd (by decide) (show (p : Int) ∣ 1 from d)
    have := hp.1
    omega
  | b :: l, h => fun d => by
    rcases hp.euclid d with d | d
    · exact h b List.mem_cons_self d
    · exact prodL_ndvd hp l (fun x hx => h x (List.mem_cons_of_mem _ hx)) d
/-- 1 .. n -/
def upTo (n : Nat) : List Int := (List.range n).map fun (i : Nat) => (i : Int) + 1
theorem mem_upTo {n : Nat} {x : Int} : x ∈ upTo n ↔ 1 ≤ x ∧ x ≤ n := by
  unfold upTo
  rw [List.mem_map]
  constructor
  · rintro ⟨i, hi, rfl⟩
    rw [List.mem_range] at hi
    omega
  · rintro ⟨h1, h2⟩
    exact ⟨(x - 1).toNat, by rw [List.mem_range]; omega, by omega⟩
theorem upTo_len (n : Nat) : (upTo n).length = n := by unfold upTo; simp
theorem upTo_nodup (n : Nat) : (upTo n).Nodup := by
  unfold upTo
  unfold List.Nodup
  rw [List.pairwise_map]
  exact (List.nodup_range (n := n)).imp fun {a b} h e => h (by omega)
theorem upTo_perm {n : Nat} {f : Int → Int} (h1 : ∀ x ∈ upTo n, f x ∈ upTo n) (h2 : ∀ x ∈ upTo n, ∀ y ∈ upTo n, f x = f y → x = y) : ((upTo n).map f).Perm (upTo n) := by
  refine nodup_perm ?_ (fun x hx => ?_) (by rw [List.length_map]; exact Nat.le_refl _)
  · unfold List.Nodup
    rw [List.pairwise_map]
    have := upTo_nodup n
    unfold List.Nodup at this
    refine List.Pairwise.imp_of_mem (fun {a b} ha hb h e => h (h2 a ha b hb e)) this
  · obtain ⟨y, hy, rfl⟩ := List.mem_map.mp hx
    exact h1 y hy
theorem fermat {p : Nat} (hp : PrimeI p) {a : Int} (ha : ¬ (p : Int) ∣ a) : (p : Int) ∣ a ^ (p - 1) - 1 := by
  have h2 := hp.1
  have hp0 : (0 : Int) < p := by omega
  let f : Int → Int := fun x => a * x % p
  have hx0 : ∀ x ∈ upTo (p - 1), ¬ (p : Int) ∣ x := fun x hx => by
    rw [mem_upTo] at hx
    exact hp.small (by omega) (by omega)
  have hf : ∀ x, (p : Int) ∣ a * x - f x := fun x => by
    have := Int.mul_ediv_add_emod (a * x) p
    exact ⟨a * x / p, by show a * x - a * x % p = _; omega⟩
  have hpm := upTo_perm (n := p - 1) (f := f) (fun x hx => by
    have h0 := Int.emod_nonneg (a * x) (show (p : Int) ≠ 0 by omega)
    have h1 := Int.emod_lt_of_pos (a * x) hp0
    have h3 : a * x % p ≠ 0 := fun z => by
      rcases hp.euclid (Int.dvd_of_emod_eq_zero z) with z | z
      · exact ha z
      · exact hx0 x hx z
    rw [mem_upTo]
    show 1 ≤ a * x % p ∧ a * x % p ≤ _
    omega) (fun x hx y hy e => by
    have h1 := Int.dvd_sub (hf x) (hf y)
    rw [e, show a * x - f y - (a * y - f y) = a * (x - y) by grind] at h1
    rw [mem_upTo] at hx hy
    rcases hp.euclid h1 with z | z
    · exact absurd z ha
    · exact hp.diff (by omega) (by omega) (by omega) (by omega) z)
  have e1 := prodL_perm hpm
  have e2 := prodL_cong (m := p) (f := (a * ·)) (g := f) (upTo (p - 1)) fun x _ => hf x
  rw [e1, prodL_scale, upTo_len] at e2
  have e3 : a ^ (p - 1) * prodL (upTo (p - 1)) - prodL (upTo (p - 1)) = (a ^ (p - 1) - 1) * prodL (upTo (p - 1)) := by grind
  rw [e3] at e2
  rcases hp.euclid e2 with z | z
  · exact z
  · exact absurd z (prodL_ndvd hp _ hx0)
/-- a square modulo p -/
def SqM (p : Nat) (a : Int) : Prop := ∃ x : Int, (p : Int) ∣ x * x - a
/-- half the prime less one -/
theorem half_one {p : Nat} (hp : PrimeI p) (ho : p % 2 = 1) {a : Int} (ha : ¬ (p : Int) ∣ a) : (p : Int) ∣ a ^ ((p - 1) / 2) - 1 ∨ (p : Int) ∣ a ^ ((p - 1) / 2) + 1 := by
  have h := fermat hp ha
  have e : p - 1 = (p - 1) / 2 + (p - 1) / 2 := by omega
  have e2 : a ^ (p - 1) = a ^ ((p - 1) / 2) * a ^ ((p - 1) / 2) := by rw [← Int.pow_add, ← e]
  rw [e2] at h
  generalize a ^ ((p - 1) / 2) = B at *
  rw [show B * B - 1 = (B - 1) * (B + 1) by grind] at h
  exact hp.euclid h
theorem euler_sq {p : Nat} (hp : PrimeI p) (ho : p % 2 = 1) {a : Int} (ha : ¬ (p : Int) ∣ a) (hs : SqM p a) : (p : Int) ∣ a ^ ((p - 1) / 2) - 1 := by
  obtain ⟨x, hx⟩ := hs
  have hx0 : ¬ (p : Int) ∣ x := fun z => ha (by
    have := Int.dvd_sub (Int.dvd_mul_of_dvd_left (c := x) z) hx
    rwa [show x * x - (x * x - a) = a by omega] at this)
  have h1 := pow_cong hx ((p - 1) / 2)
  rw [Int.mul_pow, ← Int.pow_add, show (p - 1) / 2 + (p - 1) / 2 = p - 1 by omega] at h1
  have h2 := fermat hp hx0
  have := Int.dvd_sub h2 h1
  rwa [show x ^ (p - 1) - 1 - (x ^ (p - 1) - a ^ ((p - 1) / 2)) = a ^ ((p - 1) / 2) - 1 by omega] at this
theorem euler_only {p : Nat} (hp : PrimeI p) (ho : p % 2 = 1) {a : Int} (ha : ¬ (p : Int) ∣ a) (h : (p : Int) ∣ a ^ ((p - 1) / 2) - 1) : SqM p a := by
  have h2 := hp.1
  by_cases z : SqM p a
  · exact z
  · exfalso
    have hlen := few_roots hp (n := (p - 1) / 2) (by omega) (rs := a :: (upTo ((p - 1) / 2)).map fun x => x * x) (fun r hr => ?_) ?_
    · rw [List.length_cons, List.length_map, upTo_len] at hlen
      omega
    · rcases List.mem_cons.mp hr with rfl | hr
      · exact h
      · obtain ⟨x, hx, rfl⟩ := List.mem_map.mp hr
        rw [mem_upTo] at hx
        have hx0 := hp.small (a := x) (by omega) (by omega)
        exact euler_sq hp ho (fun d => by rcases hp.euclid d with d | d <;> exact hx0 d) ⟨x, by rw [Int.sub_self]; exact ⟨0, by omega⟩⟩
    · rw [List.pairwise_cons]
      refine ⟨fun y hy d => ?_, ?_⟩
      · obtain ⟨x, hx, rfl⟩ := List.mem_map.mp hy
        exact z ⟨x, by rw [← Int.dvd_neg, Int.neg_sub]; exact d⟩
      · rw [List.pairwise_map]
        have hn := upTo_nodup ((p - 1) / 2)
        unfold List.Nodup at hn
        refine List.Pairwise.imp_of_mem (fun {x y} hx hy hne d => ?_) hn
        rw [mem_upTo] at hx hy
        rw [show x * x - y * y = (x - y) * (x + y) by grind] at d
        rcases hp.euclid d with d | d
        · exact hne (hp.diff (by omega) (by omega) (by omega) (by omega) d)
        · exact hp.small (by omega) (by omega) d
theorem euler_not {p : Nat} (hp : PrimeI p) (ho : p % 2 = 1) {a : Int} (ha : ¬ (p : Int) ∣ a) (hs : ¬ SqM p a) : (p : Int) ∣ a ^ ((p - 1) / 2) + 1 := by
  rcases half_one hp ho ha with z | z
  · exact absurd (euler_only hp ho ha z) hs
  · exact z
local macro_rules | `(tactic| walk_at "d1") => `(tactic| try simp only [dSeq, dSkip, dPass, dRet, dRetN, dDrop, dCond, dAsg, gNm, gTp, dOwn, dOwnL, dPar, dAug, dApp, dExt, dFrz, dFor, dLc, dBreak, dCont, dVar, dC, dOp, dT, dIsi, dNeg, dNot, dTNot, dAnd, dOr, dTAnd, dTOr, dIf, dCh, dNil, dCons, dTup, dLst, dIxO, dB, dCall, dCallW, dItems, dRng1, dRng2, dYes, fnE, startE, startW, startS, dLenO, dLenS, dIxS, dSl, dPt, dNo, wipeE, addD_int, addD_str, addD_tup, addD_lst, subD_int, mulD_int, mulD_tup, mulD_lst, fdivD_int, modD_int, powD_int, shlD_int, shrD_int, andD_int, ltD_int, leD_int, gtD_int, geD_int, eqD_ap, neD_ap, isD_ap, isNotD_ap, isNon_none, isNon_int, isNon_bool, isNon_str, isNon_tup, isNon_lst, isInt_none, isInt_int, isInt_bool, isInt_str, isInt_tup, isInt_lst, isBool_none, isBool_int, isBool_bool, isBool_str, isBool_tup, isBool_lst, isStr_none, isStr_int, isStr_bool, isStr_str, isStr_tup, isStr_lst, isTup_none, isTup_int, isTup_bool, isTup_str, isTup_tup, isTup_lst, isLst_lst, Cnd_true, Cnd_false, Cnd_not, Cnd_dec, asB_bool, forall_const, true_implies, false_implies, implies_true, decide_true, decide_false, Classical.not_not, negD_int, notD_bool, onVal_val, onOwn_own, onDic_dic, onScr_scr, onWv_wv, onInt_int, onTup_tup, onLst_lst, onItems_lst, onItems_tup, frz1_own, frz1_val, frz1_un, ixD_lst, ixD_tup, ixL_int, optD_some, optI_some, absD_int, intD_int, intD_bool, lenD_lst, lenD_tup, lenD_str, tupleD_lst, tupleD_tup, listD_lst, listD_tup, min2D_int, max2D_int, sumD_ints, allD_bls, anyD_bls, slD_lst, slD_tup, slD_str, gNl_nil, gCs_cons, par2_two, seq1_lst, seq1_tup, rng1D_int, rng2D_int, gt_z, gt_s, sp_next_int, set_z, set_s, List.map_cons, List.map_nil, List.length_cons, List.length_nil, List.cons_append, List.nil_append, List.replicate, Nat.reduceAdd, Nat.reduceSub, Nat.zero_add, shaped_int, shaped_bool, shaped_none, shaped_listI, shaped_tupI, shaped_nilL, shaped_nilT, eqv_int, eqv_bool, eqv_str, eqv_none, eqv_list_nil, List.isEmpty_nil, List.isEmpty_cons, Bool.true_eq_false, Bool.false_eq_true, decide_eq_true_eq, and_self, true_and, and_true, not_dec, Bool.not_eq_true', decide_eq_false_iff_not, atI_0, atI_1, atI_2, ite_true, ite_false, if_true, if_false, reduceIte, Bool.not_true, Bool.not_false, not_true_eq_false, not_false_eq_true, List.set_cons_zero, List.set_cons_succ, dPar3, dRev, par3_three, sortedD_ints, revD_tup, two_nat, one_nat, three_nat, dCh3, dOwnC, dPutPar, putPar_two, dZip2, zip2D_lst, zip2D_tup, dPut, isBD_bl, isNotBD_bl, dNewO, dPutO, dSortedO, putKD_int, dPar3O, dParO2, par3O_two, parO2_one, minLD_lst, dKeysW, rdPairs_nil, rdPairs_cons, onPair_ii, inTD_lst, gTl, dAugS, dZip3, zip3D_tup, zip3L_cons, zip3L_nil, revD_lst])
local macro_rules | `(tactic| walk_at "dd") => `(tactic| (walk_at "d1"; repeat (with_reducible (refine then_intro ?_); walk_at "d1")))
def sumL (l : List Int) : Int := l.foldr (· + ·) 0
theorem sumL_cons (a : Int) (l : List Int) : sumL (a :: l) = a + sumL l := rfl
theorem sumL_perm {l l' : List Int} (h : l.Perm l') : sumL l = sumL l' := by
  induction h with
  | nil => rfl
  | cons a _ ih => rw [sumL_cons, sumL_cons, ih]
  | swap a b l => simp only [sumL_cons]; omega
  | trans _ _ h1 h2 => rw [h1, h2]
theorem sumL_add {α : Type} (f g : α → Int) : ∀ l : List α, sumL (l.map fun x => f x + g x) = sumL (l.map f) + sumL (l.map g)
  | [] => rfl
  | a :: l => by
    simp only [List.map_cons, sumL_cons]
    rw [sumL_add f g l]
    omega
theorem sumL_scale {α : Type} (c : Int) (f : α → Int) : ∀ l : List α, sumL (l.map fun x => c * f x) = c * sumL (l.map f)
  | [] => (Int.mul_zero c).symm
  | a :: l => by
    simp only [List.map_cons, sumL_cons]
    rw [sumL_scale c f l, Int.mul_add]
theorem sumL_same {α : Type} {f g : α → Int} : ∀ {l : List α}, (∀ x ∈ l, f x = g x) → sumL (l.map f) = sumL (l.map g)
  | [], _ => rfl
  | a :: l, h => by
    simp only [List.map_cons, sumL_cons]
    rw [h a List.mem_cons_self, sumL_same fun x hx => h x (List.mem_cons_of_mem _ hx)]
theorem sumL_const {α : Type} (c : Int) : ∀ l : List α, sumL (l.map fun _ => c) = c * l.length
  | [] => (Int.mul_zero c).symm
  | a :: l => by
    simp only [List.map_cons, sumL_cons, List.length_cons]
    rw [sumL_const c l]
    grind
theorem sumL_swap {α β : Type} (f : α → β → Int) (l : List α) : ∀ m : List β, sumL (l.map fun x => sumL (m.map fun y => f x y)) = sumL (m.map fun y => sumL (l.map fun x => f x y))
  | [] => by
    show sumL (l.map fun _ => 0) = 0
    rw [sumL_const, Int.zero_mul]
  | b :: m => by
    simp only [List.map_cons, sumL_cons]
    rw [sumL_add, sumL_swap f l m]
theorem sumL_mod2 {α : Type} {f g : α → Int} : ∀ {l : List α}, (∀ x ∈ l, (f x - g x) % 2 = 0) → (sumL (l.map f) - sumL (l.map g)) % 2 = 0
  | [], _ => rfl
  | a :: l, h => by
    have h1 := h a List.mem_cons_self
    have h2 := sumL_mod2 fun x hx => h x (List.mem_cons_of_mem _ hx)
    simp only [List.map_cons, sumL_cons]
    omega
def ind (b : Prop) [Decidable b] : Int := if b then 1 else 0
theorem ind_nonneg {α : Type} (c : α → Prop) [DecidablePred c] : ∀ l : List α, 0 ≤ sumL (l.map fun x => ind (c x))
  | [] => Int.le_refl _
  | a :: l => by
    have := ind_nonneg c l
    simp only [List.map_cons, sumL_cons]
    unfold ind at *
    split <;> omega
theorem prodL_signs (c : Int → Prop) [DecidablePred c] (f : Int → Int) : ∀ l : List Int, prodL (l.map fun x => if c x then -f x else f x) = (-1) ^ (sumL (l.map fun x => ind (c x))).toNat * prodL (l.map f)
  | [] => rfl
  | a :: l => by
    have ih := prodL_signs c f l
    have h0 := ind_nonneg c l
    simp only [List.map_cons, prodL_cons, sumL_cons]
    rw [ih]
    generalize hS : sumL (l.map fun x => ind (c x)) = S at *
    by_cases z : c a
    · rw [if_pos z, show ind (c a) = 1 from if_pos z, show (1 + S).toNat = S.toNat + 1 by omega, Int.pow_succ]
      grind
    · rw [if_neg z, show ind (c a) = 0 from if_neg z, show (0 + S).toNat = S.toNat by omega]
      grind
section
variable {p : Nat} {a : Int}
def gR (p : Nat) (a x : Int) : Int := a * x % p
def gC (p : Nat) (a x : Int) : Prop := (((p - 1) / 2 : Nat) : Int) < gR p a x
instance (p : Nat) (a x : Int) : Decidable (gC p a x) := inferInstanceAs (Decidable (_ < _))
def gS (p : Nat) (a x : Int) : Int := if gC p a x then (p : Int) - gR p a x else gR p a x
def gM (p : Nat) (a : Int) : Int := sumL ((upTo ((p - 1) / 2)).map fun x => ind (gC p a x))
theorem gM_nonneg (p : Nat) (a : Int) : 0 ≤ gM p a := ind_nonneg _ _
theorem gR_pos (hp : PrimeI p) (ha : ¬ (p : Int) ∣ a) {x : Int} (hx : x ∈ upTo ((p - 1) / 2)) : 0 < gR p a x ∧ gR p a x < p := by
  have h2 := hp.1
  have h0 := Int.emod_nonneg (a * x) (show (p : Int) ≠ 0 by omega)
  have h1 := Int.emod_lt_of_pos (a * x) (show (0 : Int) < p by omega)
  rw [mem_upTo] at hx
  have h3 : a * x % p ≠ 0 := fun z => by
    rcases hp.euclid (Int.dvd_of_emod_eq_zero z) with z | z
    · exact ha z
    · exact hp.small (by omega) (by omega) z
  unfold gR
  omega
theorem gR_dvd (p : Nat) (a x : Int) : (p : Int) ∣ a * x - gR p a x := by
  have := Int.mul_ediv_add_emod (a * x) p
  exact ⟨a * x / p, by show a * x - a * x % p = _; omega⟩
theorem gS_mem (hp : PrimeI p) (ho : p % 2 = 1) (ha : ¬ (p : Int) ∣ a) {x : Int} (hx : x ∈ upTo ((p - 1) / 2)) : gS p a x ∈ upTo ((p - 1) / 2) := by
  obtain ⟨h0, h1⟩ := gR_pos hp ha hx
  rw [mem_upTo]
  have hc : gC p a x ↔ (((p - 1) / 2 : Nat) : Int) < gR p a x := Iff.rfl
  unfold gS
  by_cases z : gC p a x
  · rw [if_pos z]
    rw [hc] at z
    omega
  · rw [if_neg z]
    rw [hc] at z
    omega
theorem gS_inj (hp : PrimeI p) (ho : p % 2 = 1) (ha : ¬ (p : Int) ∣ a) {x y : Int} (hx : x ∈ upTo ((p - 1) / 2)) (hy : y ∈ upTo ((p - 1) / 2)) (e : gS p a x = gS p a y) : x = y := by
  have dx := gR_dvd p a x
  have dy := gR_dvd p a y
  rw [mem_upTo] at hx hy
  have key : (p : Int) ∣ a * (x - y) ∨ (p : Int) ∣ a * (x + y) := by
    unfold gS at e
    generalize gR p a x = r at *
    generalize gR p a y = s at *
    obtain ⟨u, hu⟩ := dx
    obtain ⟨v, hv⟩ := dy
    have e1 : a * (x - y) = a * x - a * y := by grind
    have e2 : a * (x + y) = a * x + a * y := by grind
    have m1 : (p : Int) * (u - v) = p * u - p * v := by grind
    have m2 : (p : Int) * (u + v + 1) = p * u + p * v + p := by grind
    rw [e1, e2]
    split at e <;> split at e
    · exact .inl ⟨u - v, by omega⟩
    · exact .inr ⟨u + v + 1, by omega⟩
    · exact .inr ⟨u + v + 1, by omega⟩
    · exact .inl ⟨u - v, by omega⟩
  rcases key with d | d
  · rcases hp.euclid d with d | d
    · exact absurd d ha
    · exact hp.diff (by omega) (by omega) (by omega) (by omega) d
  · rcases hp.euclid d with d | d
    · exact absurd d ha
    · exact absurd d (hp.small (by omega) (by omega))
theorem gS_perm (hp : PrimeI p) (ho : p % 2 = 1) (ha : ¬ (p : Int) ∣ a) : ((upTo ((p - 1) / 2)).map (gS p a)).Perm (upTo ((p - 1) / 2)) :=
  upTo_perm (fun x hx => gS_mem hp ho ha hx) fun x hx y hy e => gS_inj hp ho ha hx hy e
theorem gauss (hp : PrimeI p) (ho : p % 2 = 1) (ha : ¬ (p : Int) ∣ a) : (p : Int) ∣ a ^ ((p - 1) / 2) - (-1) ^ (gM p a).toNat := by
  have e1 := prodL_cong (m := p) (f := (a * ·)) (g := fun x => if gC p a x then -gS p a x else gS p a x) (upTo ((p - 1) / 2)) fun x _ => by
    have h := gR_dvd p a x
    show (p : Int) ∣ a * x - (if gC p a x then -gS p a x else gS p a x)
    unfold gS
    split
    · obtain ⟨u, hu⟩ := h
      exact ⟨u + 1, by have : (p : Int) * (u + 1) = p * u + p := by grind
                       omega⟩
    · exact h
  rw [prodL_signs, prodL_perm (gS_perm hp ho ha), prodL_scale, upTo_len] at e1
  have e3 : a ^ ((p - 1) / 2) * prodL (upTo ((p - 1) / 2)) - (-1) ^ (gM p a).toNat * prodL (upTo ((p - 1) / 2)) = (a ^ ((p - 1) / 2) - (-1) ^ (gM p a).toNat) * prodL (upTo ((p - 1) / 2)) := by grind
  have e4 : (p : Int) ∣ a ^ ((p - 1) / 2) * prodL (upTo ((p - 1) / 2)) - (-1) ^ (gM p a).toNat * prodL (upTo ((p - 1) / 2)) := e1
  rw [e3] at e4
  rcases hp.euclid e4 with z | z
  · exact z
  · refine absurd z (prodL_ndvd hp _ fun x hx => ?_)
    rw [mem_upTo] at hx
    exact hp.small (by omega) (by omega)
/-- the sum of the quotients tells the count -/
theorem eisen (hp : PrimeI p) (ho : p % 2 = 1) (ha : ¬ (p : Int) ∣ a) :
    (a * sumL (upTo ((p - 1) / 2)) - sumL ((upTo ((p - 1) / 2)).map fun x => a * x / p) - sumL (upTo ((p - 1) / 2)) - gM p a) % 2 = 0 := by
  have h1 := sumL_mod2 (l := upTo ((p - 1) / 2)) (f := fun x => a * x) (g := fun x => a * x / p + (gS p a x + ind (gC p a x))) fun x _ => by
    have e := Int.mul_ediv_add_emod (a * x) p
    show (a * x - (a * x / p + (gS p a x + ind (gC p a x)))) % 2 = 0
    unfold gS ind gR
    generalize a * x / p = Q at *
    generalize a * x % p = r at *
    obtain ⟨h, hh⟩ : ∃ h : Int, (p : Int) = 2 * h + 1 := ⟨((p / 2 : Nat) : Int), by omega⟩
    have e2 : (p : Int) * Q = 2 * (h * Q) + Q := by rw [hh]; grind
    split <;> omega
  rw [sumL_add, sumL_add, sumL_perm (gS_perm hp ho ha)] at h1
  have h2 : sumL ((upTo ((p - 1) / 2)).map fun x => a * x) = a * sumL (upTo ((p - 1) / 2)) := by
    have := sumL_scale a (fun x : Int => x) (upTo ((p - 1) / 2))
    rw [List.map_id'] at this
    exact this
  rw [h2] at h1
  unfold gM
  omega
end
theorem upTo_succ (n : Nat) : upTo (n + 1) = upTo n ++ [(n : Int) + 1] := by unfold upTo; rw [List.range_succ, List.map_append]; rfl
theorem sumL_app (l m : List Int) : sumL (l ++ m) = sumL l + sumL m := by
  induction l with
  | nil => exact (Int.zero_add _).symm
  | cons a l ih => rw [List.cons_append, sumL_cons, sumL_cons, ih]; omega
/-- 1 + .. + n -/
theorem sum_upTo (n : Nat) : 2 * sumL (upTo n) = n * (n + 1) := by
  induction n with
  | zero => rfl
  | succ n ih =>
    rw [upTo_succ, sumL_app]
    show 2 * (sumL (upTo n) + ((n : Int) + 1 + 0)) = ((n + 1 : Nat) : Int) * (((n + 1 : Nat) : Int) + 1)
    rw [Int.natCast_add]
    have : ((n : Int) + ((1 : Nat) : Int)) * ((n : Int) + ((1 : Nat) : Int) + 1) = n * (n + 1) + 2 * (n + 1) := by
      show ((n : Int) + 1) * ((n : Int) + 1 + 1) = _
      grind
    rw [this]
    omega
/-- how many of 1 .. n are at most c -/
theorem count_le {n : Nat} {c : Int} (h0 : 0 ≤ c) (h1 : c ≤ n) : sumL ((upTo n).map fun y => ind (y ≤ c)) = c := by
  have key : ∀ n : Nat, sumL ((upTo n).map fun y => ind (y ≤ c)) = min c n := fun n => by
    induction n with
    | zero => show (0 : Int) = min c 0; omega
    | succ n ih =>
      rw [upTo_succ, List.map_append, sumL_app, ih]
      show min c n + (ind ((n : Int) + 1 ≤ c) + 0) = min c ((n + 1 : Nat) : Int)
      unfold ind
      split <;> omega
  rw [key]
  omega
theorem lattice {h k : Nat} (hc : ∀ x y : Int, x ∈ upTo h → y ∈ upTo k → (2 * (k : Int) + 1) * x ≠ (2 * (h : Int) + 1) * y) :
    sumL ((upTo h).map fun x => (2 * (k : Int) + 1) * x / (2 * (h : Int) + 1)) + sumL ((upTo k).map fun y => (2 * (h : Int) + 1) * y / (2 * (k : Int) + 1)) = h * k := by
  have half : ∀ (h k : Nat), sumL ((upTo h).map fun x => (2 * (k : Int) + 1) * x / (2 * (h : Int) + 1)) = sumL ((upTo h).map fun x => sumL ((upTo k).map fun y => ind ((2 * (h : Int) + 1) * y ≤ (2 * (k : Int) + 1) * x))) := fun h k => by
    refine sumL_same fun x hx => ?_
    rw [mem_upTo] at hx
    have hP : (0 : Int) < 2 * (h : Int) + 1 := by omega
    have hq : 0 ≤ (2 * (k : Int) + 1) * x := Int.mul_nonneg (by omega) (by omega)
    have hc0 : 0 ≤ (2 * (k : Int) + 1) * x / (2 * (h : Int) + 1) := Int.ediv_nonneg hq (by omega)
    have hck : (2 * (k : Int) + 1) * x / (2 * (h : Int) + 1) ≤ k := by
      refine Int.lt_add_one_iff.mp ((Int.ediv_lt_iff_lt_mul hP).mpr ?_)
      have : (2 * (k : Int) + 1) * x ≤ (2 * (k : Int) + 1) * h := Int.mul_le_mul_of_nonneg_left (by omega) (by omega)
      have e1 : (2 * (k : Int) + 1) * h = 2 * (k * h) + h := by grind
      have e2 : ((k : Int) + 1) * (2 * (h : Int) + 1) = 2 * (k * h) + k + 2 * h + 1 := by grind
      omega
    have := count_le hc0 hck
    refine this.symm.trans (sumL_same fun y hy => ?_)
    unfold ind
    have : y ≤ (2 * (k : Int) + 1) * x / (2 * (h : Int) + 1) ↔ (2 * (h : Int) + 1) * y ≤ (2 * (k : Int) + 1) * x := by
      rw [Int.le_ediv_iff_mul_le hP, Int.mul_comm]
    by_cases z : (2 * (h : Int) + 1) * y ≤ (2 * (k : Int) + 1) * x
    · rw [if_pos z, if_pos (this.mpr z)]
    · rw [if_neg z, if_neg (fun w => z (this.mp w))]
  rw [half h k, half k h, sumL_swap (fun (y x : Int) => ind ((2 * (k : Int) + 1) * x ≤ (2 * (h : Int) + 1) * y)) (upTo k) (upTo h), ← sumL_add]
  have : ∀ x ∈ upTo h, (sumL ((upTo k).map fun y => ind ((2 * (h : Int) + 1) * y ≤ (2 * (k : Int) + 1) * x)) + sumL ((upTo k).map fun y => ind ((2 * (k : Int) + 1) * x ≤ (2 * (h : Int) + 1) * y))) = (k : Int) := fun x hx => by
    rw [← sumL_add]
    refine (sumL_same (g := fun _ => 1) fun y hy => ?_).trans (by rw [sumL_const, upTo_len, Int.one_mul])
    have := hc x y hx hy
    unfold ind
    split <;> split <;> omega
  rw [sumL_same this, sumL_const, upTo_len, Int.mul_comm]
local macro_rules | `(tactic| walk_at "d1") => `(tactic| try simp only [dSeq, dSkip, dPass, dRet, dRetN, dDrop, dCond, dAsg, gNm, gTp, dOwn, dOwnL, dPar, dAug, dApp, dExt, dFrz, dFor, dLc, dBreak, dCont, dVar, dC, dOp, dT, dIsi, dNeg, dNot, dTNot, dAnd, dOr, dTAnd, dTOr, dIf, dCh, dNil, dCons, dTup, dLst, dIxO, dB, dCall, dCallW, dItems, dRng1, dRng2, dYes, fnE, startE, startW, startS, dLenO, dLenS, dIxS, dSl, dPt, dNo, wipeE, addD_int, addD_str, addD_tup, addD_lst, subD_int, mulD_int, mulD_tup, mulD_lst, fdivD_int, modD_int, powD_int, shlD_int, shrD_int, andD_int, ltD_int, leD_int, gtD_int, geD_int, eqD_ap, neD_ap, isD_ap, isNotD_ap, isNon_none, isNon_int, isNon_bool, isNon_str, isNon_tup, isNon_lst, isInt_none, isInt_int, isInt_bool, isInt_str, isInt_tup, isInt_lst, isBool_none, isBool_int, isBool_bool, isBool_str, isBool_tup, isBool_lst, isStr_none, isStr_int, isStr_bool, isStr_str, isStr_tup, isStr_lst, isTup_none, isTup_int, isTup_bool, isTup_str, isTup_tup, isTup_lst, isLst_lst, Cnd_true, Cnd_false, Cnd_not, Cnd_dec, asB_bool, forall_const, true_implies, false_implies, implies_true, decide_true, decide_false, Classical.not_not, negD_int, notD_bool, onVal_val, onOwn_own, onDic_dic, onScr_scr, onWv_wv, onInt_int, onTup_tup, onLst_lst, onItems_lst, onItems_tup, frz1_own, frz1_val, frz1_un, ixD_lst, ixD_tup, ixL_int, optD_some, optI_some, absD_int, intD_int, intD_bool, lenD_lst, lenD_tup, lenD_str, tupleD_lst, tupleD_tup, listD_lst, listD_tup, min2D_int, max2D_int, sumD_ints, allD_bls, anyD_bls, slD_lst, slD_tup, slD_str, gNl_nil, gCs_cons, par2_two, seq1_lst, seq1_tup, rng1D_int, rng2D_int, gt_z, gt_s, sp_next_int, set_z, set_s, List.map_cons, List.map_nil, List.length_cons, List.length_nil, List.cons_append, List.nil_append, List.replicate, Nat.reduceAdd, Nat.reduceSub, Nat.zero_add, shaped_int, shaped_bool, shaped_none, shaped_listI, shaped_tupI, shaped_nilL, shaped_nilT, eqv_int, eqv_bool, eqv_str, eqv_none, eqv_list_nil, List.isEmpty_nil, List.isEmpty_cons, Bool.true_eq_false, Bool.false_eq_true, decide_eq_true_eq, and_self, true_and, and_true, not_dec, Bool.not_eq_true', decide_eq_false_iff_not, atI_0, atI_1, atI_2, ite_true, ite_false, if_true, if_false, reduceIte, Bool.not_true, Bool.not_false, not_true_eq_false, not_false_eq_true, List.set_cons_zero, List.set_cons_succ, dPar3, dRev, par3_three, sortedD_ints, revD_tup, two_nat, one_nat, three_nat, dCh3, dOwnC, dPutPar, putPar_two, dZip2, zip2D_lst, zip2D_tup, dPut, isBD_bl, isNotBD_bl, dNewO, dPutO, dSortedO, putKD_int, dPar3O, dParO2, par3O_two, parO2_one, minLD_lst, dKeysW, rdPairs_nil, rdPairs_cons, onPair_ii, inTD_lst, gTl, dAugS, dZip3, zip3D_tup, zip3L_cons, zip3L_nil, revD_lst])
local macro_rules | `(tactic| walk_at "dd") => `(tactic| (walk_at "d1"; repeat (with_reducible (refine then_intro ?_); walk_at "d1")))
theorem neg_one_pow (n : Nat) : (-1 : Int) ^ n = if n % 2 = 0 then 1 else -1 := by
  induction n with
  | zero => rfl
  | succ n ih =>
    rw [Int.pow_succ, ih]
    split <;> split <;> omega
def leg (p : Nat) (a : Int) : Int := if (p : Int) ∣ a then 0 else if (p : Int) ∣ a ^ ((p - 1) / 2) - 1 then 1 else -1
theorem leg_vals (p : Nat) (a : Int) : leg p a = 0 ∨ leg p a = 1 ∨ leg p a = -1 := by
  unfold leg
  split
  · exact .inl rfl
  · split
    · exact .inr (.inl rfl)
    · exact .inr (.inr rfl)
theorem leg_zero {p : Nat} {a : Int} (h : (p : Int) ∣ a) : leg p a = 0 := if_pos h
theorem leg_ne {p : Nat} {a : Int} (h : ¬ (p : Int) ∣ a) : leg p a = 1 ∨ leg p a = -1 := by
  unfold leg
  rw [if_neg h]
  split
  · exact .inl rfl
  · exact .inr rfl
structure OddP (p : Nat) : Prop where
  pr : PrimeI p
  odd : p % 2 = 1
theorem OddP.three {p : Nat} (h : OddP p) : 3 ≤ p := by have := h.pr.1; have := h.odd; omega
section
variable {p : Nat} (hp : OddP p)
include hp
theorem leg_uniq {u v : Int} (hu : u = 0 ∨ u = 1 ∨ u = -1) (hv : v = 0 ∨ v = 1 ∨ v = -1) (d : (p : Int) ∣ u - v) : u = v := by
  have h3 := hp.three
  rcases Int.lt_trichotomy u v with z | z | z
  · have d' : (p : Int) ∣ v - u := by rw [← Int.dvd_neg, Int.neg_sub]; exact d
    have := Int.le_of_dvd (by omega) d'
    omega
  · exact z
  · have := Int.le_of_dvd (by omega) d
    omega
theorem leg_euler (a : Int) : (p : Int) ∣ a ^ ((p - 1) / 2) - leg p a := by
  have h3 := hp.three
  unfold leg
  by_cases z : (p : Int) ∣ a
  · rw [if_pos z, Int.sub_zero, show (p - 1) / 2 = (p - 1) / 2 - 1 + 1 by omega, Int.pow_succ]
    exact Int.dvd_mul_of_dvd_right z
  · rw [if_neg z]
    split
    · assumption
    · rename_i w
      rcases half_one hp.pr hp.odd z with y | y
      · exact absurd y w
      · rwa [show a ^ ((p - 1) / 2) - -1 = a ^ ((p - 1) / 2) + 1 by omega]
theorem leg_is {a u : Int} (hu : u = 0 ∨ u = 1 ∨ u = -1) (h : (p : Int) ∣ a ^ ((p - 1) / 2) - u) : leg p a = u := by
  refine leg_uniq hp (leg_vals p a) hu ?_
  have := Int.dvd_sub h (leg_euler hp a)
  rwa [show a ^ ((p - 1) / 2) - u - (a ^ ((p - 1) / 2) - leg p a) = leg p a - u by omega] at this
theorem leg_cong {a b : Int} (h : (p : Int) ∣ a - b) : leg p a = leg p b := by
  refine leg_is hp (leg_vals p b) ?_
  have := Int.dvd_add (pow_cong h ((p - 1) / 2)) (leg_euler hp b)
  rwa [show a ^ ((p - 1) / 2) - b ^ ((p - 1) / 2) + (b ^ ((p - 1) / 2) - leg p b) = a ^ ((p - 1) / 2) - leg p b by omega] at this
theorem leg_mul (a b : Int) : leg p (a * b) = leg p a * leg p b := by
  refine leg_is hp ?_ ?_
  · rcases leg_vals p a with h | h | h <;> rcases leg_vals p b with k | k | k <;> rw [h, k] <;> decide
  · have h1 := Int.dvd_mul_of_dvd_left (c := b ^ ((p - 1) / 2)) (leg_euler hp a)
    have h2 := Int.dvd_mul_of_dvd_right (b := leg p a) (leg_euler hp b)
    have := Int.dvd_add h1 h2
    rw [Int.mul_pow]
    rwa [show (a ^ ((p - 1) / 2) - leg p a) * b ^ ((p - 1) / 2) + leg p a * (b ^ ((p - 1) / 2) - leg p b) = a ^ ((p - 1) / 2) * b ^ ((p - 1) / 2) - leg p a * leg p b by grind] at this
theorem leg_one : leg p 1 = 1 := by
  refine leg_is hp (.inr (.inl rfl)) ?_
  rw [Int.one_pow]
  exact ⟨0, by omega⟩
theorem leg_sq {a : Int} (ha : ¬ (p : Int) ∣ a) : leg p a = 1 ↔ SqM p a := by
  constructor
  · intro h
    refine euler_only hp.pr hp.odd ha ?_
    have := leg_euler hp a
    rwa [h] at this
  · intro h
    exact leg_is hp (.inr (.inl rfl)) (euler_sq hp.pr hp.odd ha h)
theorem leg_gauss {a : Int} (ha : ¬ (p : Int) ∣ a) : leg p a = (-1) ^ (gM p a).toNat := by
  refine leg_is hp ?_ (gauss hp.pr hp.odd ha)
  rw [neg_one_pow]
  split
  · exact .inr (.inl rfl)
  · exact .inr (.inr rfl)
theorem leg_two : leg p 2 = if p % 8 = 3 ∨ p % 8 = 5 then -1 else 1 := by
  have h3 := hp.three
  have ho := hp.odd
  have hn : ¬ (p : Int) ∣ 2 := hp.pr.small (by omega) (by omega)
  rw [leg_gauss hp hn, neg_one_pow]
  have h := eisen hp.pr hp.odd hn
  have hq : sumL ((upTo ((p - 1) / 2)).map fun x => 2 * x / (p : Int)) = 0 := by
    refine (sumL_same (g := fun _ => 0) fun x hx => ?_).trans (by rw [sumL_const, Int.zero_mul])
    rw [mem_upTo] at hx
    exact Int.ediv_eq_zero_of_lt (by omega) (by omega)
  have hs := sum_upTo ((p - 1) / 2)
  have hm := gM_nonneg p 2
  rw [hq] at h
  generalize sumL (upTo ((p - 1) / 2)) = S at *
  generalize gM p 2 = M at *
  obtain ⟨k, hk⟩ : ∃ k : Nat, (p - 1) / 2 = k := ⟨_, rfl⟩
  rw [hk] at hs
  have hp2 : p = 2 * k + 1 := by omega
  obtain ⟨j, r, hj, hr⟩ : ∃ j r : Nat, k = 4 * j + r ∧ r < 4 := ⟨k / 4, k % 4, by omega, by omega⟩
  subst hj
  have e : ((4 * j + r : Nat) : Int) * (((4 * j + r : Nat) : Int) + 1) = 16 * ((j : Int) * j) + 8 * ((j : Int) * r) + 4 * j + (r : Int) * r + r := by
    rw [Int.natCast_add, Int.natCast_mul]
    show (4 * (j : Int) + r) * (4 * (j : Int) + r + 1) = _
    grind
  rw [e] at hs
  generalize (j : Int) * j = J at *
  have hrr : r = 0 ∨ r = 1 ∨ r = 2 ∨ r = 3 := by omega
  rcases hrr with rfl | rfl | rfl | rfl
  · rw [if_pos (by omega), if_neg (by omega)]
  · rw [if_neg (by omega), if_pos (by omega)]
  · rw [if_neg (by omega), if_pos (by omega)]
  · rw [if_pos (by omega), if_neg (by omega)]
end
theorem leg_qr {p q : Nat} (hp : OddP p) (hq : OddP q) (hn : ¬ (p : Int) ∣ q) (hn' : ¬ (q : Int) ∣ p) : leg p q = (if p % 4 = 3 ∧ q % 4 = 3 then -1 else 1) * leg q p := by
  have p3 := hp.three
  have q3 := hq.three
  have po := hp.odd
  have qo := hq.odd
  rw [leg_gauss hp hn, leg_gauss hq hn', neg_one_pow, neg_one_pow]
  have h1 := eisen hp.pr hp.odd hn
  have h2 := eisen hq.pr hq.odd hn'
  have m1 := gM_nonneg p q
  have m2 := gM_nonneg q p
  have hl := lattice (h := (p - 1) / 2) (k := (q - 1) / 2) fun x y hx hy e => by
    rw [mem_upTo] at hx hy
    have e1 : 2 * (((q - 1) / 2 : Nat) : Int) + 1 = q := by omega
    have e2 : 2 * (((p - 1) / 2 : Nat) : Int) + 1 = p := by omega
    rw [e1, e2] at e
    rcases hp.pr.euclid (show (p : Int) ∣ q * x from ⟨y, e⟩) with d | d
    · exact hn d
    · exact hp.pr.small (by omega) (by omega) d
  have e1 : 2 * (((q - 1) / 2 : Nat) : Int) + 1 = q := by omega
  have e2 : 2 * (((p - 1) / 2 : Nat) : Int) + 1 = p := by omega
  rw [e1, e2] at hl
  generalize sumL ((upTo ((p - 1) / 2)).map fun x => (q : Int) * x / p) = F1 at *
  generalize sumL ((upTo ((q - 1) / 2)).map fun x => (p : Int) * x / q) = F2 at *
  generalize gM p q = M1 at *
  generalize gM q p = M2 at *
  generalize sumL (upTo ((p - 1) / 2)) = S1 at *
  generalize sumL (upTo ((q - 1) / 2)) = S2 at *
  obtain ⟨h, hh⟩ : ∃ h : Nat, (p - 1) / 2 = h := ⟨_, rfl⟩
  obtain ⟨k, hk⟩ : ∃ k : Nat, (q - 1) / 2 = k := ⟨_, rfl⟩
  rw [hh, hk] at hl
  have hp2 : p = 2 * h + 1 := by omega
  have hq2 : q = 2 * k + 1 := by omega
  have s1 : (q : Int) * S1 = 2 * (k * S1) + S1 := by rw [hq2]; rw [Int.natCast_add, Int.natCast_mul]; show (2 * (k : Int) + 1) * S1 = _; grind
  have s2 : (p : Int) * S2 = 2 * (h * S2) + S2 := by rw [hp2]; rw [Int.natCast_add, Int.natCast_mul]; show (2 * (h : Int) + 1) * S2 = _; grind
  rw [s1] at h1
  rw [s2] at h2
  obtain ⟨i, a, hi, ha⟩ : ∃ i a : Nat, h = 2 * i + a ∧ a < 2 := ⟨h / 2, h % 2, by omega, by omega⟩
  obtain ⟨j, b, hj, hb⟩ : ∃ j b : Nat, k = 2 * j + b ∧ b < 2 := ⟨k / 2, k % 2, by omega, by omega⟩
  have e3 : (h : Int) * k = 4 * ((i : Int) * j) + 2 * ((i : Int) * b) + 2 * ((a : Int) * j) + (a : Int) * b := by
    rw [hi, hj, Int.natCast_add, Int.natCast_mul, Int.natCast_add, Int.natCast_mul]
    show (2 * (i : Int) + a) * (2 * (j : Int) + b) = _
    grind
  rw [e3] at hl
  generalize (i : Int) * j = X1 at *
  have ha' : a = 0 ∨ a = 1 := by omega
  have hb' : b = 0 ∨ b = 1 := by omega
  rcases ha' with rfl | rfl <;> rcases hb' with rfl | rfl
  · rw [if_neg (show ¬ (p % 4 = 3 ∧ q % 4 = 3) by omega)]; split <;> split <;> omega
  · rw [if_neg (show ¬ (p % 4 = 3 ∧ q % 4 = 3) by omega)]; split <;> split <;> omega
  · rw [if_neg (show ¬ (p % 4 = 3 ∧ q % 4 = 3) by omega)]; split <;> split <;> omega
  · rw [if_pos (show (p % 4 = 3 ∧ q % 4 = 3) by omega)]; split <;> split <;> omega
def prodN (ps : List Nat) : Nat := ps.foldr (· * ·) 1
theorem prodN_cons (p : Nat) (ps : List Nat) : prodN (p :: ps) = p * prodN ps := rfl
def jacL (ps : List Nat) (a : Int) : Int := ps.foldr (fun p s => leg p a * s) 1
theorem jacL_cons (p : Nat) (ps : List Nat) (a : Int) : jacL (p :: ps) a = leg p a * jacL ps a := rfl
def chi8 (n : Nat) : Int := if n % 8 = 3 ∨ n % 8 = 5 then -1 else 1
def eps (m n : Nat) : Int := if m % 4 = 3 ∧ n % 4 = 3 then -1 else 1
theorem odd8 {n : Nat} (h : n % 2 = 1) : ∃ j, n = 8 * j + 1 ∨ n = 8 * j + 3 ∨ n = 8 * j + 5 ∨ n = 8 * j + 7 := ⟨n / 8, by omega⟩
theorem odd4 {n : Nat} (h : n % 2 = 1) : ∃ j, n = 4 * j + 1 ∨ n = 4 * j + 3 := ⟨n / 4, by omega⟩
theorem mul_odd {m n : Nat} (h : m % 2 = 1) (h' : n % 2 = 1) : (m * n) % 2 = 1 := by rw [Nat.mul_mod, h, h']
theorem chi8_mul {m n : Nat} (h : m % 2 = 1) (h' : n % 2 = 1) : chi8 (m * n) = chi8 m * chi8 n := by
  unfold chi8
  rw [Nat.mul_mod]
  have h1 : m % 8 = 1 ∨ m % 8 = 3 ∨ m % 8 = 5 ∨ m % 8 = 7 := by omega
  have h2 : n % 8 = 1 ∨ n % 8 = 3 ∨ n % 8 = 5 ∨ n % 8 = 7 := by omega
  rcases h1 with e | e | e | e <;> rcases h2 with f | f | f | f <;> rw [e, f] <;> decide
theorem eps_mul {m n q : Nat} (h : m % 2 = 1) (h' : n % 2 = 1) (hq : q % 2 = 1) : eps q (m * n) = eps q m * eps q n ∧ eps (m * n) q = eps m q * eps n q := by
  unfold eps
  rw [Nat.mul_mod]
  have h1 : m % 4 = 1 ∨ m % 4 = 3 := by omega
  have h2 : n % 4 = 1 ∨ n % 4 = 3 := by omega
  have h3 : q % 4 = 1 ∨ q % 4 = 3 := by omega
  rcases h1 with e | e <;> rcases h2 with f | f <;> rcases h3 with g | g <;> rw [e, f, g] <;> decide
def OddPs (ps : List Nat) : Prop := ∀ p ∈ ps, OddP p
theorem OddPs.tail {p : Nat} {ps : List Nat} (h : OddPs (p :: ps)) : OddPs ps := fun q hq => h q (List.mem_cons_of_mem _ hq)
theorem prodN_odd : ∀ {ps : List Nat}, OddPs ps → prodN ps % 2 = 1
  | [], _ => rfl
  | p :: ps, h => mul_odd (h p List.mem_cons_self).odd (prodN_odd h.tail)
theorem jacL_cong {a b : Int} : ∀ {ps : List Nat}, OddPs ps → (prodN ps : Int) ∣ a - b → jacL ps a = jacL ps b
  | [], _, _ => rfl
  | p :: ps, h, d => by
    rw [prodN_cons, Int.natCast_mul] at d
    rw [jacL_cons, jacL_cons, leg_cong (h p List.mem_cons_self) (Int.dvd_trans ⟨_, rfl⟩ d), jacL_cong h.tail (Int.dvd_trans ⟨_, Int.mul_comm _ _⟩ d)]
theorem jacL_mul (a b : Int) : ∀ {ps : List Nat}, OddPs ps → jacL ps (a * b) = jacL ps a * jacL ps b
  | [], _ => rfl
  | p :: ps, h => by
    rw [jacL_cons, jacL_cons, jacL_cons, leg_mul (h p List.mem_cons_self), jacL_mul a b h.tail]
    grind
theorem jacL_one : ∀ {ps : List Nat}, OddPs ps → jacL ps 1 = 1
  | [], _ => rfl
  | p :: ps, h => by
    rw [jacL_cons, leg_one (h p List.mem_cons_self), jacL_one h.tail]
    rfl
theorem jacL_two : ∀ {ps : List Nat}, OddPs ps → jacL ps 2 = chi8 (prodN ps)
  | [], _ => rfl
  | p :: ps, h => by
    rw [jacL_cons, prodN_cons, chi8_mul (h p List.mem_cons_self).odd (prodN_odd h.tail), jacL_two h.tail, leg_two (h p List.mem_cons_self)]
    rfl
theorem PrimeI.of_dvd {p q : Nat} (hp : PrimeI p) (hq : PrimeI q) (h : p ∣ q) : p = q := by
  rcases Nat.lt_trichotomy p q with z | z | z
  · have h1 := hq.2 p z (by have := hp.1; omega)
    have h2 : Nat.gcd p q = p := Nat.gcd_eq_left h
    have := hp.1
    omega
  · exact z
  · have := Nat.le_of_dvd (by have := hq.1; omega) h
    omega
theorem leg_rec {p q : Nat} (hp : OddP p) (hq : OddP q) : leg p q = eps p q * leg q p := by
  by_cases z : p = q
  · subst z
    rw [leg_zero (Int.dvd_refl _), Int.mul_zero]
  · exact leg_qr hp hq (fun d => z (hp.pr.of_dvd hq.pr (Int.natCast_dvd_natCast.mp d))) fun d => z (hq.pr.of_dvd hp.pr (Int.natCast_dvd_natCast.mp d)).symm
theorem leg_jacL {p : Nat} (hp : OddP p) : ∀ {qs : List Nat}, OddPs qs → leg p (prodN qs : Nat) = eps p (prodN qs) * jacL qs p
  | [], _ => by
    show leg p 1 = eps p 1 * 1
    rw [leg_one hp]
    unfold eps
    rw [if_neg (by omega)]
    rfl
  | q :: qs, h => by
    rw [prodN_cons, Int.natCast_mul, leg_mul hp, leg_rec hp (h q List.mem_cons_self), leg_jacL hp h.tail, jacL_cons, (eps_mul (h q List.mem_cons_self).odd (prodN_odd h.tail) hp.odd).1]
    grind
theorem jacL_rec {qs : List Nat} (hq : OddPs qs) : ∀ {ps : List Nat}, OddPs ps → jacL ps (prodN qs : Nat) = eps (prodN ps) (prodN qs) * jacL qs (prodN ps : Nat)
  | [], _ => by
    show (1 : Int) = eps 1 (prodN qs) * jacL qs 1
    rw [jacL_one hq]
    unfold eps
    rw [if_neg (by omega)]
    rfl
  | p :: ps, h => by
    rw [prodN_cons, Int.natCast_mul, jacL_cons, leg_jacL (h p List.mem_cons_self) hq, jacL_rec hq h.tail, jacL_mul _ _ hq, (eps_mul (h p List.mem_cons_self).odd (prodN_odd h.tail) (prodN_odd hq)).2]
    grind
theorem minFac_prime {n : Nat} (h : 2 ≤ n) : PrimeI (minFac n) := by
  obtain ⟨h1, h2, h3⟩ := minFac_spec h
  refine ⟨h2, fun r hr r0 => ?_⟩
  have g1 := Nat.gcd_dvd_left r (minFac n)
  have g2 := Nat.gcd_dvd_right r (minFac n)
  have g3 := Nat.le_of_dvd (by omega) g1
  have g4 : 0 < Nat.gcd r (minFac n) := Nat.gcd_pos_of_pos_left _ (by omega)
  rcases Nat.lt_or_ge (Nat.gcd r (minFac n)) 2 with z | z
  · omega
  · exact absurd (Nat.dvd_trans g2 h1) (h3 _ z (by omega))
theorem exists_primes : ∀ (k n : Nat), n ≤ k → 0 < n → ∃ ps : List Nat, (∀ p ∈ ps, PrimeI p) ∧ prodN ps = n := by
  intro k
  induction k with
  | zero => intro n h h0; omega
  | succ k ih =>
    intro n h h0
    by_cases z : n = 1
    · exact ⟨[], (fun p hp => nomatch hp), z.symm⟩
    · obtain ⟨⟨q, hq⟩, h2, h3⟩ := minFac_spec (n := n) (by omega)
      have q0 : 0 < q := by
        rcases Nat.eq_zero_or_pos q with y | y
        · subst y; rw [Nat.mul_zero] at hq; omega
        · exact y
      have ql : q < n := by
        have := Nat.mul_le_mul_right q h2
        omega
      obtain ⟨ps, h4, h5⟩ := ih q (by omega) q0
      refine ⟨minFac n :: ps, fun p hp => ?_, by rw [prodN_cons, h5, ← hq]⟩
      rcases List.mem_cons.mp hp with rfl | hp
      · exact minFac_prime (by omega)
      · exact h4 p hp
theorem odd_primes {n : Nat} (h : n % 2 = 1) : ∃ ps : List Nat, OddPs ps ∧ prodN ps = n := by
  obtain ⟨ps, h1, h2⟩ := exists_primes n n (Nat.le_refl _) (by omega)
  refine ⟨ps, fun p hp => ⟨h1 p hp, ?_⟩, h2⟩
  have d : ∀ (ps : List Nat), p ∈ ps → p ∣ prodN ps := by
    intro ps
    induction ps with
    | nil => intro h; nomatch h
    | cons q ps ih =>
      intro h
      rw [prodN_cons]
      rcases List.mem_cons.mp h with rfl | h
      · exact Nat.dvd_mul_right _ _
      · exact Nat.dvd_trans (ih h) (Nat.dvd_mul_left _ _)
  obtain ⟨c, hc⟩ := d ps hp
  rw [h2] at hc
  rcases Nat.mod_two_eq_zero_or_one p with z | z
  · rw [hc, Nat.mul_mod, z] at h
    simp at h
  · exact z
theorem twoSign_pow (n : Nat) : ∀ t : Nat, twoSign t n = chi8 n ^ t
  | 0 => by rw [twoSign_zero, Int.pow_zero]
  | t + 1 => by rw [twoSign_succ, twoSign_pow n t, Int.pow_succ, Int.mul_comm]; rfl
theorem swapSign_eps (a n : Nat) : swapSign a n = eps n a := by
  unfold swapSign eps
  by_cases h : a % 4 = 3 ∧ n % 4 = 3
  · rw [if_pos h, if_pos ⟨h.2, h.1⟩]
  · rw [if_neg h, if_neg fun z => h ⟨z.2, z.1⟩]
theorem jacL_pow {ps : List Nat} (h : OddPs ps) (a : Int) : ∀ t : Nat, jacL ps (a * 2 ^ t) = jacL ps a * chi8 (prodN ps) ^ t
  | 0 => by rw [Int.pow_zero, Int.pow_zero, Int.mul_one, Int.mul_one]
  | t + 1 => by
    rw [Int.pow_succ, Int.pow_succ, ← Int.mul_assoc, jacL_mul _ _ h, jacL_pow h a t, jacL_two h, Int.mul_assoc]
/-- the reckoned mark is the product of the marks of the primes -/
theorem jac_is : ∀ (k a : Nat), a ≤ k → ∀ {ps : List Nat}, OddPs ps → jac a (prodN ps) = jacL ps a := by
  intro k
  induction k with
  | zero =>
    intro a ha ps h
    have : a = 0 := by omega
    subst this
    rw [jac_zero]
    cases ps with
    | nil => rfl
    | cons p ps =>
      rw [jacL_cons, leg_zero (show (p : Int) ∣ ((0 : Nat) : Int) from ⟨0, by rw [Int.mul_zero]; rfl⟩), Int.zero_mul, if_neg]
      intro e
      have := (h p List.mem_cons_self).three
      have h1 := prodN_odd h.tail
      rw [prodN_cons] at e
      have := Nat.le_mul_of_pos_right p (show 0 < prodN ps by omega)
      omega
  | succ k ih =>
    intro a ha ps h
    by_cases z : a = 0
    · subst z
      exact ih 0 (Nat.zero_le _) h
    · rw [jac_step z]
      have e := strip_eq a
      have o : (strip a).1 % 2 = 1 := by
        rcases strip_is a with y | y
        · exact absurd (strip_zero.mp y) z
        · exact y
      have le := strip_le a
      generalize (strip a).1 = b at *
      generalize (strip a).2 = t at *
      obtain ⟨qs, h1, h2⟩ := odd_primes o
      subst h2
      have hb0 : 0 < prodN qs := by omega
      have hlt := Nat.mod_lt (prodN ps) hb0
      rw [ih _ (by omega) h1, e, Int.natCast_mul, Int.natCast_pow]
      rw [show ((2 : Nat) : Int) = 2 from rfl, jacL_pow h, jacL_rec h1 h, twoSign_pow, swapSign_eps]
      have : jacL qs ((prodN ps % prodN qs : Nat) : Int) = jacL qs (prodN ps : Nat) := by
        refine jacL_cong h1 ?_
        rw [Int.natCast_emod]
        have := Int.mul_ediv_add_emod (prodN ps : Int) (prodN qs : Int)
        exact ⟨-((prodN ps : Int) / (prodN qs : Int)), by rw [Int.mul_neg]; omega⟩
      rw [this]
      grind
/-- the mark modulo an odd number -/
def markN (n : Nat) (a : Int) : Int := jac (a % (n : Int)).toNat n
theorem markN_is {ps : List Nat} (h : OddPs ps) (a : Int) : markN (prodN ps) a = jacL ps a := by
  have ho := prodN_odd h
  have h0 := Int.emod_nonneg a (show (prodN ps : Int) ≠ 0 by omega)
  unfold markN
  rw [jac_is _ _ (Nat.le_refl _) h]
  refine jacL_cong h ?_
  rw [Int.toNat_of_nonneg h0]
  have := Int.mul_ediv_add_emod a (prodN ps)
  exact ⟨-(a / (prodN ps : Int)), by rw [Int.mul_neg]; omega⟩
theorem OddP.of_min {n : Nat} (h2 : 2 ≤ n) (ho : n % 2 = 1) : OddP (minFac n) := by
  refine ⟨minFac_prime h2, ?_⟩
  obtain ⟨⟨q, hq⟩, _, _⟩ := minFac_spec h2
  rcases Nat.mod_two_eq_zero_or_one (minFac n) with z | z
  · rw [hq, Nat.mul_mod, z, Nat.zero_mul] at ho
    simp at ho
  · exact z
theorem div_odd {n p : Nat} (hd : p ∣ n) (ho : n % 2 = 1) : (n / p) % 2 = 1 := by
  obtain ⟨q, rfl⟩ := hd
  rcases Nat.eq_zero_or_pos p with z | z
  · subst z; rw [Nat.zero_mul] at ho; omega
  · rw [Nat.mul_div_cancel_left q z]
    rcases Nat.mod_two_eq_zero_or_one q with y | y
    · rw [Nat.mul_mod, y, Nat.mul_zero] at ho
      simp at ho
    · exact y
theorem markN_step {n : Nat} (h2 : 2 ≤ n) (ho : n % 2 = 1) (a : Int) : markN n a = leg (minFac n) a * markN (n / minFac n) a := by
  have hp := OddP.of_min h2 ho
  have hd := (minFac_spec h2).1
  obtain ⟨ps, h1, h3⟩ := odd_primes (div_odd hd ho)
  have hps : OddPs (minFac n :: ps) := fun p hp' => by
    rcases List.mem_cons.mp hp' with rfl | hp'
    · exact hp
    · exact h1 p hp'
  have e : prodN (minFac n :: ps) = n := by rw [prodN_cons, h3, Nat.mul_div_cancel' hd]
  rw [← h3, markN_is h1, ← jacL_cons, ← markN_is hps, e]
theorem markN_one (a : Int) : markN 1 a = 1 := markN_is (ps := []) (fun p hp => nomatch hp) a
theorem markN_prime {p : Nat} (hp : OddP p) (a : Int) : markN p a = leg p a := by
  have := markN_is (ps := [p]) (fun q hq => by rw [List.mem_singleton.mp hq]; exact hp) a
  rw [show prodN [p] = p from Nat.mul_one p] at this
  rw [this]
  exact Int.mul_one _
theorem markN_vals {n : Nat} (h : n % 2 = 1) (a : Int) : markN n a = 0 ∨ markN n a = 1 ∨ markN n a = -1 := by
  obtain ⟨ps, h1, rfl⟩ := odd_primes h
  rw [markN_is h1]
  clear h
  induction ps with
  | nil => exact .inr (.inl rfl)
  | cons p ps ih =>
    rw [jacL_cons]
    rcases leg_vals p a with h | h | h <;> rcases ih h1.tail with k | k | k <;> rw [h, k] <;> decide
local macro_rules | `(tactic| walk_at "d1") => `(tactic| try simp only [dSeq, dSkip, dPass, dRet, dRetN, dDrop, dCond, dAsg, gNm, gTp, dOwn, dOwnL, dPar, dAug, dApp, dExt, dFrz, dFor, dLc, dBreak, dCont, dVar, dC, dOp, dT, dIsi, dNeg, dNot, dTNot, dAnd, dOr, dTAnd, dTOr, dIf, dCh, dNil, dCons, dTup, dLst, dIxO, dB, dCall, dCallW, dItems, dRng1, dRng2, dYes, fnE, startE, startW, startS, dLenO, dLenS, dIxS, dSl, dPt, dNo, wipeE, addD_int, addD_str, addD_tup, addD_lst, subD_int, mulD_int, mulD_tup, mulD_lst, fdivD_int, modD_int, powD_int, shlD_int, shrD_int, andD_int, ltD_int, leD_int, gtD_int, geD_int, eqD_ap, neD_ap, isD_ap, isNotD_ap, isNon_none, isNon_int, isNon_bool, isNon_str, isNon_tup, isNon_lst, isInt_none, isInt_int, isInt_bool, isInt_str, isInt_tup, isInt_lst, isBool_none, isBool_int, isBool_bool, isBool_str, isBool_tup, isBool_lst, isStr_none, isStr_int, isStr_bool, isStr_str, isStr_tup, isStr_lst, isTup_none, isTup_int, isTup_bool, isTup_str, isTup_tup, isTup_lst, isLst_lst, Cnd_true, Cnd_false, Cnd_not, Cnd_dec, asB_bool, forall_const, true_implies, false_implies, implies_true, decide_true, decide_false, Classical.not_not, negD_int, notD_bool, onVal_val, onOwn_own, onDic_dic, onScr_scr, onWv_wv, onInt_int, onTup_tup, onLst_lst, onItems_lst, onItems_tup, frz1_own, frz1_val, frz1_un, ixD_lst, ixD_tup, ixL_int, optD_some, optI_some, absD_int, intD_int, intD_bool, lenD_lst, lenD_tup, lenD_str, tupleD_lst, tupleD_tup, listD_lst, listD_tup, min2D_int, max2D_int, sumD_ints, allD_bls, anyD_bls, slD_lst, slD_tup, slD_str, gNl_nil, gCs_cons, par2_two, seq1_lst, seq1_tup, rng1D_int, rng2D_int, gt_z, gt_s, sp_next_int, set_z, set_s, List.map_cons, List.map_nil, List.length_cons, List.length_nil, List.cons_append, List.nil_append, List.replicate, Nat.reduceAdd, Nat.reduceSub, Nat.zero_add, shaped_int, shaped_bool, shaped_none, shaped_listI, shaped_tupI, shaped_nilL, shaped_nilT, eqv_int, eqv_bool, eqv_str, eqv_none, eqv_list_nil, List.isEmpty_nil, List.isEmpty_cons, Bool.true_eq_false, Bool.false_eq_true, decide_eq_true_eq, and_self, true_and, and_true, not_dec, Bool.not_eq_true', decide_eq_false_iff_not, atI_0, atI_1, atI_2, ite_true, ite_false, if_true, if_false, reduceIte, Bool.not_true, Bool.not_false, not_true_eq_false, not_false_eq_true, List.set_cons_zero, List.set_cons_succ, dPar3, dRev, par3_three, sortedD_ints, revD_tup, two_nat, one_nat, three_nat, dCh3, dOwnC, dPutPar, putPar_two, dZip2, zip2D_lst, zip2D_tup, dPut, isBD_bl, isNotBD_bl, dNewO, dPutO, dSortedO, putKD_int, dPar3O, dParO2, par3O_two, parO2_one, minLD_lst, dKeysW, rdPairs_nil, rdPairs_cons, onPair_ii, inTD_lst, gTl, dAugS, dZip3, zip3D_tup, zip3L_cons, zip3L_nil, revD_lst])
local macro_rules | `(tactic| walk_at "dd") => `(tactic| (walk_at "d1"; repeat (with_reducible (refine then_intro ?_); walk_at "d1")))
def primeT (p : Nat) : Bool := decide (2 ≤ p) && decide (p < 1001 * 1001) && (List.range 1001).all fun d => decide (d < 2) || decide (p ≤ d) || decide (p % d ≠ 0)
theorem sq_prime2 {n d : Nat} (h : n < d * d) (h2 : 2 ≤ n) (hd : ∀ e, 2 ≤ e → e < d → ¬ e ∣ n) : minFac n = n := by
  refine minFac_is h2 (by omega) (Nat.dvd_refl n) fun e e2 e1 => ?_
  rintro ⟨f, hf⟩
  rcases Nat.lt_or_ge e d with z | z
  · exact hd e e2 z ⟨f, hf⟩
  · have f2 : 2 ≤ f := by
      rcases Nat.lt_or_ge f 2 with y | y
      · have : f = 0 ∨ f = 1 := by omega
        rcases this with rfl | rfl <;> omega
      · exact y
    have fd : f < d := by
      rcases Nat.lt_or_ge f d with y | y
      · exact y
      · have := Nat.mul_le_mul z y
        omega
    exact hd f f2 fd ⟨e, by rw [Nat.mul_comm]; exact hf⟩
theorem primeT_is {p : Nat} (h : primeT p = true) : PrimeI p := by
  unfold primeT at h
  rw [Bool.and_eq_true, Bool.and_eq_true] at h
  obtain ⟨⟨h1, h2⟩, h3⟩ := h
  have h1 := of_decide_eq_true h1
  have h2 := of_decide_eq_true h2
  have e : minFac p = p := by
    refine sq_prime2 (d := min p 1001) ?_ h1 fun e e2 e1 => ?_
    · rcases Nat.le_total p 1001 with y | y
      · rw [Nat.min_eq_left y]
        have := Nat.mul_le_mul_right p h1
        omega
      · rw [Nat.min_eq_right y]
        exact h2
    · have := List.all_eq_true.mp h3 e (by rw [List.mem_range]; omega)
      rw [Bool.or_eq_true, Bool.or_eq_true, decide_eq_true_eq, decide_eq_true_eq, decide_eq_true_eq] at this
      intro d
      have := Nat.mod_eq_zero_of_dvd d
      omega
  rw [← e]
  exact minFac_prime h1
local macro_rules | `(tactic| walk_at "d1") => `(tactic| try simp only [dSeq, dSkip, dPass, dRet, dRetN, dDrop, dCond, dAsg, gNm, gTp, dOwn, dOwnL, dPar, dAug, dApp, dExt, dFrz, dFor, dLc, dBreak, dCont, dVar, dC, dOp, dT, dIsi, dNeg, dNot, dTNot, dAnd, dOr, dTAnd, dTOr, dIf, dCh, dNil, dCons, dTup, dLst, dIxO, dB, dCall, dCallW, dItems, dRng1, dRng2, dYes, fnE, startE, startW, startS, dLenO, dLenS, dIxS, dSl, dPt, dNo, wipeE, addD_int, addD_str, addD_tup, addD_lst, subD_int, mulD_int, mulD_tup, mulD_lst, fdivD_int, modD_int, powD_int, shlD_int, shrD_int, andD_int, ltD_int, leD_int, gtD_int, geD_int, eqD_ap, neD_ap, isD_ap, isNotD_ap, isNon_none, isNon_int, isNon_bool, isNon_str, isNon_tup, isNon_lst, isInt_none, isInt_int, isInt_bool, isInt_str, isInt_tup, isInt_lst, isBool_none, isBool_int, isBool_bool, isBool_str, isBool_tup, isBool_lst, isStr_none, isStr_int, isStr_bool, isStr_str, isStr_tup, isStr_lst, isTup_none, isTup_int, isTup_bool, isTup_str, isTup_tup, isTup_lst, isLst_lst, Cnd_true, Cnd_false, Cnd_not, Cnd_dec, asB_bool, forall_const, true_implies, false_implies, implies_true, decide_true, decide_false, Classical.not_not, negD_int, notD_bool, onVal_val, onOwn_own, onDic_dic, onScr_scr, onWv_wv, onInt_int, onTup_tup, onLst_lst, onItems_lst, onItems_tup, frz1_own, frz1_val, frz1_un, ixD_lst, ixD_tup, ixL_int, optD_some, optI_some, absD_int, intD_int, intD_bool, lenD_lst, lenD_tup, lenD_str, tupleD_lst, tupleD_tup, listD_lst, listD_tup, min2D_int, max2D_int, sumD_ints, allD_bls, anyD_bls, slD_lst, slD_tup, slD_str, gNl_nil, gCs_cons, par2_two, seq1_lst, seq1_tup, rng1D_int, rng2D_int, gt_z, gt_s, sp_next_int, set_z, set_s, List.map_cons, List.map_nil, List.length_cons, List.length_nil, List.cons_append, List.nil_append, List.replicate, Nat.reduceAdd, Nat.reduceSub, Nat.zero_add, shaped_int, shaped_bool, shaped_none, shaped_listI, shaped_tupI, shaped_nilL, shaped_nilT, eqv_int, eqv_bool, eqv_str, eqv_none, eqv_list_nil, List.isEmpty_nil, List.isEmpty_cons, Bool.true_eq_false, Bool.false_eq_true, decide_eq_true_eq, and_self, true_and, and_true, not_dec, Bool.not_eq_true', decide_eq_false_iff_not, atI_0, atI_1, atI_2, ite_true, ite_false, if_true, if_false, reduceIte, Bool.not_true, Bool.not_false, not_true_eq_false, not_false_eq_true, List.set_cons_zero, List.set_cons_succ, dPar3, dRev, par3_three, sortedD_ints, revD_tup, two_nat, one_nat, three_nat, dCh3, dOwnC, dPutPar, putPar_two, dZip2, zip2D_lst, zip2D_tup, dPut, isBD_bl, isNotBD_bl, dNewO, dPutO, dSortedO, putKD_int, dPar3O, dParO2, par3O_two, parO2_one, minLD_lst, dKeysW, rdPairs_nil, rdPairs_cons, onPair_ii, inTD_lst, gTl, dAugS, dZip3, zip3D_tup, zip3L_cons, zip3L_nil, revD_lst])
local macro_rules | `(tactic| walk_at "dd") => `(tactic| (walk_at "d1"; repeat (with_reducible (refine then_intro ?_); walk_at "d1")))
/-- coprime pairs, each with its place in the masks -/
def cpL : List (Nat × Nat) := [(1, 1), (1, 2), (1, 3), (1, 4), (1, 5), (1, 6), (1, 7), (1, 8), (2, 1), (2, 3), (2, 5), (2, 7), (3, 1), (3, 2), (3, 4), (3, 5), (3, 7), (3, 8), (4, 1), (4, 3), (4, 5), (4, 7), (5, 1), (5, 2), (5, 3), (5, 4), (5, 6), (5, 7), (5, 8), (6, 1), (6, 5), (6, 7), (7, 1), (7, 2), (7, 3), (7, 4), (7, 5), (7, 6), (7, 8), (8, 1), (8, 3), (8, 5), (8, 7)]
def fullM : Nat := 7351878681734361614194983175154787800207618074008924700917941841772262199361
def tab13 : List Nat := [114872672937640032406959144515848614925643463625919287914607950185126428737, 7351851074747303236373804086243347798307479033048263967825224030963689066561, 7350084227682550556775803251958911704782105941627807077247865432112476983297, 7350111834669557512579566053178679868509878135479389846001476667664591228929, 1794885516295734508214463952737671816959165035572358882182848970575843392, 7238800031384099384135585700769625542488406557218746265800410437192589246528]
def tab17 : List Nat := [7237033184424632883464479285371967685669925349052463351996599462311992758337, 27613725399546428232157068023097659255268707675737500463706736483893313, 1794885514650223673767583218403656301803961367751522968547271206254936129, 113078218991115957382138954866570515399892523501417589628265469360705110017, 7237005584179206677084828564399430427427708799462883702724754705671898009601, 7237005577439220016476191010648337388539625318711462708240291948104050020353, 1794892149324598890950059711334735719992829871736990579993083644960047169, 113078218885803671990683877608408555929997911253982062755248524231562231809, 114873097555154930833052501224257452232952022007622965106622657780133134401, 7238772862497819444156091389784580106018551748379509428931267137451231285249, 7238772855757832783547453836033487067130468267628088434446804379883383296001, 7351851067903649776098193831297502822531510940515395403457896711586404372481, 27613830711838096789343857284977676107133493529297460045130185857826880, 113105825976528830647529339121300733077149806380836266471137461888878903360, 1794885514650229950869692749503576848761213906169556055111749526485991488, 7350111396570449882292321390167083361617925274478188354094256272335244890176, 113105819236542170038891785370207694189066325629415271986674704321030914113, 7237033191059307264958763871395998685635071470094866852694609753070928924736, 7350083789585037015304033115443453064487625244137187710337948758127302152192, 114845497415041016121958967040982074007587337203896875794359324589412319232, 114873097555154937110154610755357372779909274546040998193187136100364189760, 7238800462743245656812844220288217284807725550507507111289676372411557089344, 1767285269224023571218971776966318606544664316589906783266992886391242753, 7350111403205124257509503866660014441036114142982173821705702084773950001217, 7350111396465137596900866312908921402148030662230752827221239327206102011969, 7350083796219711390521215591936384143905814112641173177949394570566007263232, 7351851068008962067766751018086764702548362805301248963417478135035778306048, 114845490675054355513321413289889035119503856452475881309896567021564329985, 114845497309728730730503889782820114537692724956461348921342379460269441024, 7238800469588544609090038960828572203712660896044781665733720553428779012160, 7238772862603131742101750686104941906582360865703781021977413039220836274176, 7351878681629049316249323878834425999643808956684653107871795940002657210432]
def tab11 : List Nat := [114845490571412877775918298831661960440514496069191211814191066007927263297, 114873104402098992112103717370251768644333766110394820139119327402973724737, 1794460897110015974985329412760332752897660978055153851573002674853122049, 7351851067903675487108434844917135096429715623648445529897271710857484566593, 7238772424398686510971316456959643660538279518516105863609725386129363963905, 7238800038229372625307501875498233468742098788557309471934653647524410425345, 113106257335675109598848174044675587456380145652456618656087390402763821120, 7350084220837251604595179301591558915241762003190507328414239773857274662976, 7350111834667937718931364720130148723445581273231710936739168035252321124416, 7237033191162948742794246332172657287554145168099371270451621710524200521728]
def tab7 : List Nat := [7237033622523766632770535967828419644892392862328417222735808857634196422657, 7238772862603157854844945955298650091834009787651750918917195690876290207744, 7350084227684196067610225819152006381137228849012335057241367838565834162240, 7238800031382427760656023639507199096243379740960946793213299351959523037185, 1794892256282803028853356060507900725405421524021743128063927105362333697, 113106257337321015794133219913864190028624482884605881452236074794906288193, 7350111396463465973421303503360555385546598802321530931537471499649066991681, 114845497416712237868543207384094636970241408207939577633622908037000073280, 7351850636542857195495713490830785832488215727644864627718858332891160776768]
def tab19 : List Nat := [7237005584072248887039480748483301568495723525175882058938939858131467108353, 1794885514650223770314796445543158022190454714675440789039673258832560193, 7351850636648169895174374547283122134043409773280099066500444307810108313665, 28045086166008010367988395047248134652098192053949462597785716124549121, 1766853910103053894120792803456572242507674784790024478362855882805739584, 114845066055920052720454347301959625734281143230244367342790370647515074625, 1766853911722847442734229054278174410882097920931197848997903254029598785, 113078218885829376625766644028747686902746004305681891654911266981497016321, 7238772431243985067691490031943087633222292302744529366529962839805402284097, 114845059317553179482940324580886801127033207100585729722623249266652745792, 113078218887474881181555728674455918494882655920938697135664227380078055424, 1766847171761891663782418477270377059021967134247018968313647529300590657, 114873104400428178377132657061919903168721040975641988956542361357606981697, 7237005584073920102603977977064762323814519392299082522952201649166741405697, 7238800462846886733013427446480331881712735418087986003782277614392184143937, 114873097660441511591005198090025476393098681709842177965740192605520793665, 7237033622416808434712042850573900999080584866908338971195318592505609453569, 7350083789478104930088394987945662718938533849863480249345074034780783513601, 7350111827822638766752248946100509625796735976087993503068943938518232600576, 7237033615678441561474528827852828174473336930778680333575151471124747124736, 28038346205052232948673358905345085688954434197797004304447600731619329, 7350083789479750434644184072591370950530670501478737054825826995179364552705, 113106250491996340052106579462521769153700194400536507758614049338083774465, 7238800469586873399801087400993092202791254764382613841195470700753606410304, 7238800469586899110808263049387978832215016992861729473305588613780963590208, 7350111827824258560300862382351331227965110399224134676439578985889456459777, 7351850636648195606184615186759740552072965975816870751455344056056137650240, 7351850643389802066519356081982456581016962758218811735816781272179447697472, 7238772424504024111914070716906945730173329158986673214071669501690009354304, 113106257230363213291153097724460488063845117559023171801172088328282181632, 114873104402073682934454237248494029063754679619726820859686239365524099136, 28045086191719020608627871665666164208300728825634417497533962153885696, 7350083796219711390424668378709244642185427619294249260128902168513429639168, 7350111834562599722532733252218383317451493093903505708372019111852297687040, 7238800462848557948577924675061792637031531285211186467795539405427458441280, 114873097662112727155502426671486231711894548833042641979001983640795091008]
def tab5 : List Nat := [113105825978148228738733446104005662150913047582228335305749903148184506432, 7238800469483232725431562072785237637951794843639828195224982413865451262017, 7351851068007342274219670831420332300312528256795792871305151366530888630273]
def tab23 : List Nat := [7237006008796721180150084124271419226554914934678059398151547475822400241729, 7238772862497819444057987735770893847364887190677556161133562002503272235073, 7350083789583391109012200470510759247731361230402828507778549695533338067009, 28038346205453967459743861114621376905109528256795847237903359489871873, 7237033615676796458749798401175063919217897210898448588821016179978346172481, 7351851074642016247602705707866031637599664931223237989449747365229611712577, 1766853804790768501132840015430614022653803843217835230500769943563272193, 7238800038122414835456804932670319222619059455745334310993381401802494185536, 113106250491996346329184375543704598856734207886554007241769908654055624704, 28038449872247355821399301827472426582548701266465802206827305431732225, 7350111396568804377735000552423362946759510830729308013193762506248544325696, 114845497309754033727598859438454632154389600657345651454277406657586659328, 7350083789479750032909648694302563079604985860995197275761927298651525218369, 114873104295115892889106409823039776065817883088236824866517287691872112641, 114845497415040620566493868307503094931330990035800498783135875128396873729, 7237033184424607580467384315716333168053228473351579049463664435114675540033, 1767285165557236459982622731424853448107243279616687724179335523717873665, 7238800469481587220777670076571552050943858209500427730524171574484347654208, 7350084220837251202860643911702060188797006002386637285684938497787739242560, 7350111396463492086164499135098013824116258137921380457098732093898546483265, 7238772431242365267865798799611083201350883866122370693676171933118206574657, 113078643611946778738178242484468577588558618263590389924560439969768013825, 7237033184319320993628489306847284705276287083973124202134805966643865325633, 113106250595663127261422274823618662233519591760300862495193291337601650689, 7351878250269876930732275734693846131558775111168022117294146839380303548481, 7238772862603131742003670603099768216920733977690079496285308748368286318656, 7350084220838870996409256979745813035908368663628725377529457084235153145920, 7238800469586899506169149473124210397442714230177045336503743737164420354112, 7237006008798392395716113480003989416455890969114998636700584533213130784832, 7350111827929570845693850335139357186184964270165706865687441071828698927168, 27607092345366592277467288756162607953142785686711468194476542650486784, 1794460895490624062827930797082775827744793548152187974572049129579745281, 114845066057565155445184773979723880989720863110476112096925661793916026880, 113078212147487819034541845874986074159710530429304937766457340079500165121, 7238772431244010778602142032271935496001449886093194308988408004707203940416, 431466130188020028652349103187155012310680416248820572824311030874112, 7351850643388156160227523431293673178830712964480667905070703938412772327488, 114845066057539444534556344750732444979012887549693453215295468244803256321, 1794460897110411432418978068144846794710782658930329703632385907068506113, 1794892150970505182782704644028552476256843606096193139392146238924132352, 114873104400428178378665520991115357948772614801497345316718492294490361856, 7351878250269876930830355449309263366942873822204665031764775881302849097792, 113105819236542170136995439383893952842730883331368539784379839268989964288, 114872672937640434044899050883368573652703139330865302766394365949861957632]
def tab29 : List Nat := [7238772424503998400807282864201782515025406403246396857029645926200569495617, 113078643611921067729446153397211575935141556940088815581986193610651996225, 114873097555128824465014736786966049764814645253512397402929504412410056769, 7237005584072249282495381895937333184325272195664705119027465485265529733185, 7350084227682550154941703916360535671439958536573831539468211410193212248065, 7350084220838896701140863762255189005597142366850200096554057306412586897473, 27607092371071224247346201528860455083422629079454539489476220781854784, 114873097660441517770003273617036070643318215313545001762828012274055385153, 7351878681627377705127805853269969603885579915993588326106937848117047070784, 1766847171761897940883785474195029708287795690819647770140034621182836737, 7237033191162948334782657471435226775498077246785095740430243778873010421825, 113078650246595844681163639881942522665569411324458884824357889258010185729, 7237033184319295282520168952937959062717424076580833130724056608760066473985, 6846970174022270436432839467411738472530237161057545869720433983553, 7350084220837225887309345471361531205072077774264831996849318151384331194432, 7350111834669557110745466723427759578950514709230748062091473397984671043584, 113106257230363213289620596246244540468248600317221363465387007842248036417, 1766853806436674696441842819436044010334795115235840319930148629797666880, 7237033184317675489069635599418279604101475785474499925906273481637989711873, 7350084220944183683535223869856266899013806059656797715693537131624440795200, 7351851067902029587093680364271244018253349051170636616413284952940138991681, 27607090725165030494784272559201172333615275341158331066758708166918208, 7351851068007342280496748615625387079179452167722202978427268494126108381184, 7351851074643636449164488390882228599035284458733583542586875083064095281153, 1766853910077750897049388400200425811066918591208801866575178388987969601, 7350111827824283863297933786754587374396551155417715899051366663383274229824, 1794460790177930659759305298520901193812014352126985224404710147821404161, 7350111827927924939498541332335351756197283278893688860598011693142464532481, 1766847064804503449516451727028221257103364778176638826468443787591155777, 27613727019333698234559529400721028165906286721722490673629121130528833, 27613832332027101302810883543781954269022838288084504656888832123207681, 114845497415066331674814222216828737490193997428091570193885233012195725376, 7238800031487765769513819535272845277542048662684465816093583952514252013632, 114845490571413279412325703719561024709540827223828960487698062899251777536, 114873104296760995711940128062061577184409599544344321665214802184760463361, 7238772424502353298082552431767950626723744304851303980622318831925920530433, 7237005584073920096424979901537751729564299858695379699155113829498206814208, 7238772431138672776024489286121632280931653927105216939140293543896576950336, 114845497415040620666106078463763569980754573683122827319381798513056944128, 7238800031384099384137094625119313801436838754457494217842655833046716252225, 7237005584177587285270726941003733271984233951927223994438313697798587940928, 113106257232008316210510458002254065864655077626040839334119839635737677888, 113106250595688838170493889124499371609145908880594123162060375815733907457, 1794460895464913054119412899598794610475707158724604363884535359675301888, 1794454051811459253279258794252128767659537435093161449730431579049951296, 114873097662112331699601279217454615882345878344219581890476356506732466176, 7237005584179232789729968438367821750442803428755412303515012337359852142592, 7238800038229397940858824640980669992676061401489945136625542205670877822977, 7351878674889036944730033950610109851302048624798409606591179644937416478720, 7350111834667912007922656576378510798268071302367235066645649473920626069568, 114845497416686526859858640484077081596686143013747484912216312490743828544, 113078643611947180570745076604606373649087905609686748779946488195706785793, 7238800031489385563160512317932014668586377808750752897603948942750048845824, 7238800038122440546465537021757576224272476517068835885335955648161610203136, 113106257230363213387700310953005285182211670762527843888295915571692703744, 7351851074642016253979443972797667959595155837101700350637368159465644494849]
def tab37 : List Nat := [7237006008691434605669233531182088077502131110386008185939412260934750572545, 7350084220838870990035608019345803624646503983036667866758509684724271943745, 7350083789479750026632547327121546123961134324386911809743329790326110158849, 113106250492021649324747217775647330493839066677945466936365899574241660993, 1767278423925466849512901158436156882021555995650806166645880236909006913, 7350111403203452640110859786323037396143776393603800898009717161674787786753, 27607090699460202365481974936972502830032949523009746669860149161627713, 113078212251128895040546408853210545756653611988433333307494057743770456065, 7237006015431421272456893105704444998736937028557967721048883844276031586369, 7237006015433041066005506167902191296440967097997718449534804074502807359552, 27613727019333600131267878226559634194571585531157389932025655437824065, 113105825871216143421950981206029362365566568522290313503260388583362789440, 114872666196008256519362999780582803973835321594191328375608912884730695745, 113078650350262229959809215317734018504844389395985231237833719452306509888, 7351878243633557051152422930910315835809974893213710601196983394359310549056, 7238800462741600547810987732989115588665315487440208474490598021711859290112, 7238800462743220341359600795186861886369345556879959193531785567674321338433, 114845059212240887814359192638738139901999085445764869336237497735318868032, 7238800462741574843077849203226306753505911361916371263696789108502281850880, 7351850636544528819071823139463277130324862200288528113560898459447706517568, 7237033615783753846864475734713459022098927801473407200547497453075629604864, 7350111827927950650409193338418840352696709316771825251586179641706876768320, 1767285270869923585973084031629436158073175411939412204942525706117578817, 7238772431242365669600309870204635986969326369380413477767398206099955912769, 7351850636649815399731695759261199908655860719600696610963169665046083276864, 27606987058384099813319930353150678642622704184324590895120873986981953, 7350111834562599314521096500995301089204394930417038110250071052075917377600, 113078650246621153858789922958390989206250920642801377096468826328437886976, 438204471343876718814655439841531407785777050380655315705551044739136, 7350084220942537783423970060712843034864738057828224026135862546337181728833, 114873104295115892985653628897590774142394075309852792763682681404180922433, 28038451517350177098676848456611459397522517365392538721339336420233280, 113106250597308236261721573051617025740336200204437138800456102559233605633, 1766847171762299673886674159486711003223143591886590667870789696344821761, 7238800031487740460336193252196396811001367153366123323821473015443824312385, 113106250491995944594673304950151813238291704628511223150543635672306286592, 7350111396463491690609010091123158364049544898596985288712999316066144620544, 1766853806410963785789836735947447510908757237099449331762200065385431041, 7351850643282844264017884498306331188748220551491559308379220783910818676737, 114845065950607767330507440441328778108690272535517500370444388696632594497, 7237033184422987378907158453384337569388309027907482607091615697164178554945, 28045189832795123160035691510669882755873720396587357043382324555681793, 7237005577439245721209329546257197026065223998699071908154259160368081276992, 113078218992786771117133971928481046701706712092553437221152733269980348481, 7237033191164619550250607112552357777716282859206968219547475948930848526337, 113078218991141272835382379967925913838272517128965507386156274097940860928, 114845490676725564900352319256853416196682409547895869006918090077958832129, 7351851074747303230095169855224434649528975451304740376327046720898275217409, 438100804563042560244244471964397643180795214099720958447412951650305, 7237033191059281553851952061940089353193513784232673869601435791136512806976, 7238800031384099384235173959837053781702773684612939469680108122319955689473, 114845490569767774953084206446838693969883265133850795297323903451515846720, 114872666302940341738090069450342801470681045450956979869057997496230612992, 7238800469483232719154436766301577254450964462020491367610447784028491743296, 7351851074643662153992617693179850827704788041059401691171271981623100571648, 114873104296761397542974460795326586613824810419627001381281670116260712448, 7351851068007342280594851907276561240573423502423393543528009816116824379392, 7238772431137053377933261602103193075213809632423414013708662199032861429824, 7237006015538353357675620175374204996233782752414733377264699411757176717312, 7350111834667937323473955022563596445318577957963199444901487140919671259137, 7350083796325023280357182005208666452371676628171251781124897724212267188289, 7238772431242339964870235957379140469713779007330979233981575942198020538368, 7238772855863145470773032568093177594553198890148505221209861268263650988033, 1794892254611587562435848033241676246483749622012891174612051446152040512, 114873097660467222599713721924837896080741754205517012032315479325728309249, 7351878250269876937105924309166101735875635832446778242298467557687062433793, 1794460897136122439594252228695371863573970486634324628754528112979480576, 1794892149325000625461492757316582493042133333374127215241532445447684097, 1794460895490624159375155808984175561114090972256834159432157047990255616, 114872673042927008525749643972699722705486963622916514978529580837511626816, 7350111403310436153622572009474376259494567373608670612899572016232490336256, 1767278530908974085655884372616641371343754473260698587441429419026022464]
def ordL : List (Nat × List Nat) := [(13, tab13), (17, tab17), (11, tab11), (7, tab7), (19, tab19), (5, tab5), (23, tab23), (29, tab29), (37, tab37)]
def dfs : List (Nat × List Nat) → Nat → Nat → Nat → Bool
  | [], m, _, _ => Nat.ble (Nat.mod m 63) 14
  | (p, ts) :: r, m, a, b => or (Nat.ble (Nat.mod m 63) 14) (and (or (not (Nat.ble (Nat.mul a p) 3485)) (dfs r m (Nat.mul a p) b)) (and (or (not (Nat.ble (Nat.mul b p) 41)) (dfs r m a (Nat.mul b p))) (ts.all fun t => dfs r (Nat.land m t) a b)))
theorem dfs_step {p : Nat} {ts : List Nat} {r : List (Nat × List Nat)} {m a b : Nat} (h1 : dfs r m (Nat.mul a p) b = true) (h2 : dfs r m a (Nat.mul b p) = true) (h3 : (ts.all fun t => dfs r (Nat.land m t) a b) = true) : dfs ((p, ts) :: r) m a b = true := by
  have e : dfs ((p, ts) :: r) m a b = or (Nat.ble (Nat.mod m 63) 14) (and (or (not (Nat.ble (Nat.mul a p) 3485)) (dfs r m (Nat.mul a p) b)) (and (or (not (Nat.ble (Nat.mul b p) 41)) (dfs r m a (Nat.mul b p))) (ts.all fun t => dfs r (Nat.land m t) a b))) := rfl
  rw [e, h1, h2, h3]
  simp
def ord2 : List (Nat × List Nat) := [(17, tab17), (11, tab11), (7, tab7), (19, tab19), (5, tab5), (23, tab23), (29, tab29), (37, tab37)]
def ord3 : List (Nat × List Nat) := [(11, tab11), (7, tab7), (19, tab19), (5, tab5), (23, tab23), (29, tab29), (37, tab37)]
def t13_0 : List Nat := [114872672937640032406959144515848614925643463625919287914607950185126428737, 7351851074747303236373804086243347798307479033048263967825224030963689066561]
theorem d13_0 : (t13_0.all fun t => dfs ord2 (Nat.land fullM t) 1 1) = true := by decide +kernel
def t13_1 : List Nat := [7350084227682550556775803251958911704782105941627807077247865432112476983297]
theorem d13_1 : (t13_1.all fun t => dfs ord2 (Nat.land fullM t) 1 1) = true := by decide +kernel
def t13_2 : List Nat := [7350111834669557512579566053178679868509878135479389846001476667664591228929]
theorem d13_2 : (t13_2.all fun t => dfs ord2 (Nat.land fullM t) 1 1) = true := by decide +kernel
def t13_3 : List Nat := [1794885516295734508214463952737671816959165035572358882182848970575843392]
theorem d13_3 : (t13_3.all fun t => dfs ord2 (Nat.land fullM t) 1 1) = true := by decide +kernel
def t13_4 : List Nat := [7238800031384099384135585700769625542488406557218746265800410437192589246528]
theorem d13_4 : (t13_4.all fun t => dfs ord2 (Nat.land fullM t) 1 1) = true := by decide +kernel
theorem d13_b : dfs ord2 fullM 1 (Nat.mul 1 13) = true := by decide +kernel
theorem d13_aa : dfs ord3 fullM (Nat.mul (Nat.mul 1 13) 17) 1 = true := by decide +kernel
theorem d13_ab : dfs ord3 fullM (Nat.mul 1 13) (Nat.mul 1 17) = true := by decide +kernel
def t17_0 : List Nat := [7237033184424632883464479285371967685669925349052463351996599462311992758337, 27613725399546428232157068023097659255268707675737500463706736483893313, 1794885514650223673767583218403656301803961367751522968547271206254936129, 113078218991115957382138954866570515399892523501417589628265469360705110017, 7237005584179206677084828564399430427427708799462883702724754705671898009601, 7237005577439220016476191010648337388539625318711462708240291948104050020353, 1794892149324598890950059711334735719992829871736990579993083644960047169, 113078218885803671990683877608408555929997911253982062755248524231562231809]
theorem d17_0 : (t17_0.all fun t => dfs ord3 (Nat.land fullM t) (Nat.mul 1 13) 1) = true := by decide +kernel
def t17_1 : List Nat := [114873097555154930833052501224257452232952022007622965106622657780133134401, 7238772862497819444156091389784580106018551748379509428931267137451231285249, 7238772855757832783547453836033487067130468267628088434446804379883383296001, 7351851067903649776098193831297502822531510940515395403457896711586404372481, 27613830711838096789343857284977676107133493529297460045130185857826880, 113105825976528830647529339121300733077149806380836266471137461888878903360, 1794885514650229950869692749503576848761213906169556055111749526485991488, 7350111396570449882292321390167083361617925274478188354094256272335244890176]
theorem d17_1 : (t17_1.all fun t => dfs ord3 (Nat.land fullM t) (Nat.mul 1 13) 1) = true := by decide +kernel
def t17_2 : List Nat := [113105819236542170038891785370207694189066325629415271986674704321030914113, 7237033191059307264958763871395998685635071470094866852694609753070928924736, 7350083789585037015304033115443453064487625244137187710337948758127302152192, 114845497415041016121958967040982074007587337203896875794359324589412319232, 114873097555154937110154610755357372779909274546040998193187136100364189760, 7238800462743245656812844220288217284807725550507507111289676372411557089344, 1767285269224023571218971776966318606544664316589906783266992886391242753, 7350111403205124257509503866660014441036114142982173821705702084773950001217]
theorem d17_2 : (t17_2.all fun t => dfs ord3 (Nat.land fullM t) (Nat.mul 1 13) 1) = true := by decide +kernel
def t17_3 : List Nat := [7350111396465137596900866312908921402148030662230752827221239327206102011969, 7350083796219711390521215591936384143905814112641173177949394570566007263232, 7351851068008962067766751018086764702548362805301248963417478135035778306048, 114845490675054355513321413289889035119503856452475881309896567021564329985, 114845497309728730730503889782820114537692724956461348921342379460269441024, 7238800469588544609090038960828572203712660896044781665733720553428779012160, 7238772862603131742101750686104941906582360865703781021977413039220836274176, 7351878681629049316249323878834425999643808956684653107871795940002657210432]
theorem d17_3 : (t17_3.all fun t => dfs ord3 (Nat.land fullM t) (Nat.mul 1 13) 1) = true := by decide +kernel
theorem t13_eq : tab13 = t13_0 ++ t13_1 ++ t13_2 ++ t13_3 ++ t13_4 := rfl
theorem t17_eq : tab17 = t17_0 ++ t17_1 ++ t17_2 ++ t17_3 := rfl
theorem dfs_ok : dfs ordL fullM 1 1 = true := by
  refine dfs_step (r := ord2) (dfs_step (r := ord3) d13_aa d13_ab ?_) d13_b ?_
  · rw [t17_eq]
    simp only [List.all_append, d17_0, d17_1, d17_2, d17_3, Bool.and_self]
  · rw [t13_eq]
    simp only [List.all_append, d13_0, d13_1, d13_2, d13_3, d13_4, Bool.and_self]
/-- the numbers p allows a t of class e -/
def okT (p : Nat) (e : Bool) (t : Nat) : Bool := match e with
  | true => Nat.beq (Nat.mod t p) 0 || Nat.beq (Nat.mod (Nat.pow t (Nat.div (Nat.sub p 1) 2)) p) 1
  | false => !Nat.beq (Nat.mod (Nat.pow t (Nat.div (Nat.sub p 1) 2)) p) 1
def cpI : List (Nat × Nat × Nat) := cpL.zipIdx.map fun q => (6 * q.2, q.1.1, q.1.2)
def tabOk (p : Nat) (ts : List Nat) : Bool := (List.range (p - 1)).all fun s => [true, false].all fun e => ts.any fun T => cpI.all fun q => !okT p e (Nat.add (Nat.mul (Nat.mul (Nat.succ s) q.2.1) q.2.1) (Nat.mul q.2.2 q.2.2)) || Nat.testBit T q.1
theorem tabOk13 : tabOk 13 tab13 = true := by decide +kernel
theorem tabOk17 : tabOk 17 tab17 = true := by decide +kernel
theorem tabOk11 : tabOk 11 tab11 = true := by decide +kernel
theorem tabOk7 : tabOk 7 tab7 = true := by decide +kernel
theorem tabOk19 : tabOk 19 tab19 = true := by decide +kernel
theorem tabOk5 : tabOk 5 tab5 = true := by decide +kernel
theorem tabOk23 : tabOk 23 tab23 = true := by decide +kernel
theorem tabOk29 : tabOk 29 tab29 = true := by decide +kernel
theorem tabOk37 : tabOk 37 tab37 = true := by decide +kernel
local macro_rules | `(tactic| walk_at "d1") => `(tactic| try simp only [dSeq, dSkip, dPass, dRet, dRetN, dDrop, dCond, dAsg, gNm, gTp, dOwn, dOwnL, dPar, dAug, dApp, dExt, dFrz, dFor, dLc, dBreak, dCont, dVar, dC, dOp, dT, dIsi, dNeg, dNot, dTNot, dAnd, dOr, dTAnd, dTOr, dIf, dCh, dNil, dCons, dTup, dLst, dIxO, dB, dCall, dCallW, dItems, dRng1, dRng2, dYes, fnE, startE, startW, startS, dLenO, dLenS, dIxS, dSl, dPt, dNo, wipeE, addD_int, addD_str, addD_tup, addD_lst, subD_int, mulD_int, mulD_tup, mulD_lst, fdivD_int, modD_int, powD_int, shlD_int, shrD_int, andD_int, ltD_int, leD_int, gtD_int, geD_int, eqD_ap, neD_ap, isD_ap, isNotD_ap, isNon_none, isNon_int, isNon_bool, isNon_str, isNon_tup, isNon_lst, isInt_none, isInt_int, isInt_bool, isInt_str, isInt_tup, isInt_lst, isBool_none, isBool_int, isBool_bool, isBool_str, isBool_tup, isBool_lst, isStr_none, isStr_int, isStr_bool, isStr_str, isStr_tup, isStr_lst, isTup_none, isTup_int, isTup_bool, isTup_str, isTup_tup, isTup_lst, isLst_lst, Cnd_true, Cnd_false, Cnd_not, Cnd_dec, asB_bool, forall_const, true_implies, false_implies, implies_true, decide_true, decide_false, Classical.not_not, negD_int, notD_bool, onVal_val, onOwn_own, onDic_dic, onScr_scr, onWv_wv, onInt_int, onTup_tup, onLst_lst, onItems_lst, onItems_tup, frz1_own, frz1_val, frz1_un, ixD_lst, ixD_tup, ixL_int, optD_some, optI_some, absD_int, intD_int, intD_bool, lenD_lst, lenD_tup, lenD_str, tupleD_lst, tupleD_tup, listD_lst, listD_tup, min2D_int, max2D_int, sumD_ints, allD_bls, anyD_bls, slD_lst, slD_tup, slD_str, gNl_nil, gCs_cons, par2_two, seq1_lst, seq1_tup, rng1D_int, rng2D_int, gt_z, gt_s, sp_next_int, set_z, set_s, List.map_cons, List.map_nil, List.length_cons, List.length_nil, List.cons_append, List.nil_append, List.replicate, Nat.reduceAdd, Nat.reduceSub, Nat.zero_add, shaped_int, shaped_bool, shaped_none, shaped_listI, shaped_tupI, shaped_nilL, shaped_nilT, eqv_int, eqv_bool, eqv_str, eqv_none, eqv_list_nil, List.isEmpty_nil, List.isEmpty_cons, Bool.true_eq_false, Bool.false_eq_true, decide_eq_true_eq, and_self, true_and, and_true, not_dec, Bool.not_eq_true', decide_eq_false_iff_not, atI_0, atI_1, atI_2, ite_true, ite_false, if_true, if_false, reduceIte, Bool.not_true, Bool.not_false, not_true_eq_false, not_false_eq_true, List.set_cons_zero, List.set_cons_succ, dPar3, dRev, par3_three, sortedD_ints, revD_tup, two_nat, one_nat, three_nat, dCh3, dOwnC, dPutPar, putPar_two, dZip2, zip2D_lst, zip2D_tup, dPut, isBD_bl, isNotBD_bl, dNewO, dPutO, dSortedO, putKD_int, dPar3O, dParO2, par3O_two, parO2_one, minLD_lst, dKeysW, rdPairs_nil, rdPairs_cons, onPair_ii, inTD_lst, gTl, dAugS, dZip3, zip3D_tup, zip3L_cons, zip3L_nil, revD_lst])
local macro_rules | `(tactic| walk_at "dd") => `(tactic| (walk_at "d1"; repeat (with_reducible (refine then_intro ?_); walk_at "d1")))
/-- some number is no square -/
theorem exists_nonres {p : Nat} (hp : OddP p) : ∃ z : Nat, 2 ≤ z ∧ z < p ∧ leg p z = -1 := by
  have h3 := hp.three
  apply Classical.byContradiction
  intro hne
  have hall : ∀ x ∈ upTo (p - 1), (p : Int) ∣ x ^ ((p - 1) / 2) - 1 := fun x hx => by
    rw [mem_upTo] at hx
    have hx0 := hp.pr.small (a := x) (by omega) (by omega)
    have he := leg_euler hp x
    rcases leg_ne hx0 with q | q
    · rw [q] at he; exact he
    · exfalso
      by_cases x1 : x = 1
      · subst x1
        rw [leg_one hp] at q
        omega
      · exact hne ⟨x.toNat, by omega, by omega, by rw [Int.toNat_of_nonneg (by omega)]; exact q⟩
  have := few_roots hp.pr (n := (p - 1) / 2) (by omega) hall (by
    have hn := upTo_nodup (p - 1)
    unfold List.Nodup at hn
    refine List.Pairwise.imp_of_mem (fun {x y} hx hy hne d => ?_) hn
    rw [mem_upTo] at hx hy
    exact hne (hp.pr.diff (by omega) (by omega) (by omega) (by omega) d))
  rw [upTo_len] at this
  omega
theorem sq_pow (x : Int) (j : Nat) : x ^ (2 ^ (j + 1)) = x ^ (2 ^ j) * x ^ (2 ^ j) := by
  rw [← Int.pow_add]
  congr 1
  rw [Nat.pow_succ]
  omega
theorem pow_sq (x : Int) (j : Nat) : (x * x) ^ (2 ^ j) = x ^ (2 ^ (j + 1)) := by rw [Int.mul_pow, sq_pow]
structure ToI (p : Nat) (a : Int) (M : Nat) (c r t : Int) : Prop where
  m1 : 1 ≤ M
  hc : (p : Int) ∣ c ^ (2 ^ (M - 1)) + 1
  ht : (p : Int) ∣ t ^ (2 ^ (M - 1)) - 1
  hr : (p : Int) ∣ r * r - a * t
  c0 : 0 ≤ c
  c1 : c < p
  r0 : 0 ≤ r
  r1 : r < p
  t0 : 0 ≤ t
  t1 : t < p
theorem modc (a m : Int) : m ∣ a % m - a := by
  have := Int.mul_ediv_add_emod a m
  exact ⟨-(a / m), by rw [Int.mul_neg]; omega⟩
theorem dvd_tr {m a b c : Int} (h1 : m ∣ a - b) (h2 : m ∣ b - c) : m ∣ a - c := by
  have := Int.dvd_add h1 h2
  rwa [show a - b + (b - c) = a - c by omega] at this
theorem dvd_sy {m a b : Int} (h : m ∣ a - b) : m ∣ b - a := by rw [← Int.dvd_neg, Int.neg_sub]; exact h
theorem ToI.start {p : Nat} (hp : OddP p) {a : Int} (ha : leg p a = 1) {z : Int} (hz : leg p z = -1) {o M : Nat} (e : p - 1 = o * 2 ^ M) (ho : o % 2 = 1) :
    ToI p a M (z ^ o % p) (a ^ ((o + 1) / 2) % p) (a ^ o % p) := by
  have h3 := hp.three
  have hpo := hp.odd
  have m1 : 1 ≤ M := by
    rcases Nat.eq_zero_or_pos M with y | y
    · subst y
      rw [Nat.pow_zero, Nat.mul_one] at e
      omega
    · exact y
  have hp0 : (0 : Int) < p := by omega
  have hh : (p - 1) / 2 = o * 2 ^ (M - 1) := by
    have : 2 ^ M = 2 ^ (M - 1) * 2 := by rw [← Nat.pow_succ]; congr 1; omega
    rw [e, this, ← Nat.mul_assoc, Nat.mul_div_cancel _ (by decide)]
  have key : ∀ x : Int, (p : Int) ∣ (x ^ o % p) ^ (2 ^ (M - 1)) - leg p x := fun x => by
    have h1 := pow_cong (modc (x ^ o) p) (2 ^ (M - 1))
    rw [← Int.pow_mul, ← hh] at h1
    exact dvd_tr h1 (leg_euler hp x)
  have k1 := key z
  have k2 := key a
  rw [hz] at k1
  rw [ha] at k2
  refine ⟨m1, ?_, k2, ?_, Int.emod_nonneg _ (by omega), Int.emod_lt_of_pos _ hp0, Int.emod_nonneg _ (by omega), Int.emod_lt_of_pos _ hp0, Int.emod_nonneg _ (by omega), Int.emod_lt_of_pos _ hp0⟩
  · rwa [Int.sub_neg] at k1
  · have h1 := modc (a ^ ((o + 1) / 2)) p
    have h2 := modc (a ^ o) p
    have e1 : a ^ ((o + 1) / 2) * a ^ ((o + 1) / 2) = a * a ^ o := by
      rw [← Int.pow_add, show (o + 1) / 2 + (o + 1) / 2 = o + 1 by omega, Int.pow_succ, Int.mul_comm]
    generalize a ^ ((o + 1) / 2) % (p : Int) = r at *
    generalize a ^ ((o + 1) / 2) = R at *
    generalize a ^ o % (p : Int) = t at *
    generalize a ^ o = T at *
    have h3 := Int.dvd_mul_of_dvd_left (c := r + R) h1
    have h4 := Int.dvd_mul_of_dvd_right (b := a) h2
    have := Int.dvd_sub h3 h4
    rwa [show (r - R) * (r + R) - a * (t - T) = r * r - a * t by grind] at this
/-- one turn: many is the least with t^(2^many) = 1 -/
theorem ToI.step {p : Nat} (hp : OddP p) {a : Int} {M : Nat} {c r t b : Int} (h : ToI p a M c r t) {n : Nat} (n1 : 1 ≤ n) (nM : n < M) (hn : (p : Int) ∣ t ^ (2 ^ n) - 1) (hl : ¬ (p : Int) ∣ t ^ (2 ^ (n - 1)) - 1)
    (hb : (p : Int) ∣ b - c ^ (2 ^ (M - n - 1))) : ToI p a n (b * b % p) (r * b % p) (t * b * b % p) := by
  obtain ⟨m1, hc, ht, hr, c0, c1, r0, r1, t0, t1⟩ := h
  have hp0 : (0 : Int) < p := by omega
  -- b^(2^n) = -1
  have hbn : (p : Int) ∣ b ^ (2 ^ n) + 1 := by
    have h1 := pow_cong hb (2 ^ n)
    rw [← Int.pow_mul, ← Nat.pow_add, show M - n - 1 + n = M - 1 by omega] at h1
    have := Int.dvd_add h1 hc
    rwa [show b ^ (2 ^ n) - c ^ (2 ^ (M - 1)) + (c ^ (2 ^ (M - 1)) + 1) = b ^ (2 ^ n) + 1 by omega] at this
  have hbb : (p : Int) ∣ (b * b) ^ (2 ^ (n - 1)) + 1 := by
    rw [pow_sq, show n - 1 + 1 = n by omega]
    exact hbn
  have htn : (p : Int) ∣ t ^ (2 ^ (n - 1)) + 1 := by
    have e : t ^ (2 ^ n) - 1 = (t ^ (2 ^ (n - 1)) - 1) * (t ^ (2 ^ (n - 1)) + 1) := by
      have := sq_pow t (n - 1)
      rw [show n - 1 + 1 = n by omega] at this
      rw [this]
      generalize t ^ 2 ^ (n - 1) = x
      grind
    rw [e] at hn
    rcases hp.pr.euclid hn with d | d
    · exact absurd d hl
    · exact d
  refine ⟨n1, ?_, ?_, ?_, Int.emod_nonneg _ (by omega), Int.emod_lt_of_pos _ hp0, Int.emod_nonneg _ (by omega), Int.emod_lt_of_pos _ hp0, Int.emod_nonneg _ (by omega), Int.emod_lt_of_pos _ hp0⟩
  · have h1 := pow_cong (modc (b * b) p) (2 ^ (n - 1))
    have := Int.dvd_add h1 hbb
    rwa [show (b * b % (p : Int)) ^ (2 ^ (n - 1)) - (b * b) ^ (2 ^ (n - 1)) + ((b * b) ^ (2 ^ (n - 1)) + 1) = (b * b % (p : Int)) ^ (2 ^ (n - 1)) + 1 by omega] at this
  · have h1 := pow_cong (modc (t * b * b) p) (2 ^ (n - 1))
    refine dvd_tr h1 ?_
    rw [Int.mul_assoc, Int.mul_pow]
    generalize (b * b) ^ 2 ^ (n - 1) = B at *
    generalize t ^ 2 ^ (n - 1) = T at *
    have h2 := Int.dvd_mul_of_dvd_right (b := T) hbb
    have := Int.dvd_sub h2 htn
    rwa [show T * (B + 1) - (T + 1) = T * B - 1 by grind] at this
  · have h1 := modc (r * b) p
    have h2 := modc (t * b * b) p
    generalize r * b % (p : Int) = x at *
    generalize t * b * b % (p : Int) = y at *
    have h3 := Int.dvd_mul_of_dvd_left (c := x + r * b) h1
    have h4 := Int.dvd_mul_of_dvd_right (b := a) h2
    have h5 := Int.dvd_mul_of_dvd_left (c := b * b) hr
    have := Int.dvd_add (Int.dvd_sub h3 h4) h5
    rwa [show (x - r * b) * (x + r * b) - a * (y - t * b * b) + (r * r - a * t) * (b * b) = x * x - a * y by grind] at this
theorem ToI.fin {p : Nat} {a : Int} {M : Nat} {c r : Int} (h : ToI p a M c r 1) : (p : Int) ∣ r * r - a := by
  have := h.hr
  rwa [Int.mul_one] at this
theorem ToI.tne {p : Nat} (hp : OddP p) {a : Int} {M : Nat} {c r t : Int} (h : ToI p a M c r t) : t ≠ 0 := fun z => by
  have h3 := hp.three
  subst z
  have := h.ht
  rw [Int.zero_pow (by have : 0 < 2 ^ (M - 1) := Nat.pow_pos (by decide)
                       omega), Int.zero_sub, Int.dvd_neg] at this
  have := Int.le_of_dvd (by decide) this
  omega
local macro_rules | `(tactic| walk_at "d1") => `(tactic| try simp only [dSeq, dSkip, dPass, dRet, dRetN, dDrop, dCond, dAsg, gNm, gTp, dOwn, dOwnL, dPar, dAug, dApp, dExt, dFrz, dFor, dLc, dBreak, dCont, dVar, dC, dOp, dT, dIsi, dNeg, dNot, dTNot, dAnd, dOr, dTAnd, dTOr, dIf, dCh, dNil, dCons, dTup, dLst, dIxO, dB, dCall, dCallW, dItems, dRng1, dRng2, dYes, fnE, startE, startW, startS, dLenO, dLenS, dIxS, dSl, dPt, dNo, wipeE, addD_int, addD_str, addD_tup, addD_lst, subD_int, mulD_int, mulD_tup, mulD_lst, fdivD_int, modD_int, powD_int, shlD_int, shrD_int, andD_int, ltD_int, leD_int, gtD_int, geD_int, eqD_ap, neD_ap, isD_ap, isNotD_ap, isNon_none, isNon_int, isNon_bool, isNon_str, isNon_tup, isNon_lst, isInt_none, isInt_int, isInt_bool, isInt_str, isInt_tup, isInt_lst, isBool_none, isBool_int, isBool_bool, isBool_str, isBool_tup, isBool_lst, isStr_none, isStr_int, isStr_bool, isStr_str, isStr_tup, isStr_lst, isTup_none, isTup_int, isTup_bool, isTup_str, isTup_tup, isTup_lst, isLst_lst, Cnd_true, Cnd_false, Cnd_not, Cnd_dec, asB_bool, forall_const, true_implies, false_implies, implies_true, decide_true, decide_false, Classical.not_not, negD_int, notD_bool, onVal_val, onOwn_own, onDic_dic, onScr_scr, onWv_wv, onInt_int, onTup_tup, onLst_lst, onItems_lst, onItems_tup, frz1_own, frz1_val, frz1_un, ixD_lst, ixD_tup, ixL_int, optD_some, optI_some, absD_int, intD_int, intD_bool, lenD_lst, lenD_tup, lenD_str, tupleD_lst, tupleD_tup, listD_lst, listD_tup, min2D_int, max2D_int, sumD_ints, allD_bls, anyD_bls, slD_lst, slD_tup, slD_str, gNl_nil, gCs_cons, par2_two, seq1_lst, seq1_tup, rng1D_int, rng2D_int, gt_z, gt_s, sp_next_int, set_z, set_s, List.map_cons, List.map_nil, List.length_cons, List.length_nil, List.cons_append, List.nil_append, List.replicate, Nat.reduceAdd, Nat.reduceSub, Nat.zero_add, shaped_int, shaped_bool, shaped_none, shaped_listI, shaped_tupI, shaped_nilL, shaped_nilT, eqv_int, eqv_bool, eqv_str, eqv_none, eqv_list_nil, List.isEmpty_nil, List.isEmpty_cons, Bool.true_eq_false, Bool.false_eq_true, decide_eq_true_eq, and_self, true_and, and_true, not_dec, Bool.not_eq_true', decide_eq_false_iff_not, atI_0, atI_1, atI_2, ite_true, ite_false, if_true, if_false, reduceIte, Bool.not_true, Bool.not_false, not_true_eq_false, not_false_eq_true, List.set_cons_zero, List.set_cons_succ, dPar3, dRev, par3_three, sortedD_ints, revD_tup, two_nat, one_nat, three_nat, dCh3, dOwnC, dPutPar, putPar_two, dZip2, zip2D_lst, zip2D_tup, dPut, isBD_bl, isNotBD_bl, dNewO, dPutO, dSortedO, putKD_int, dPar3O, dParO2, par3O_two, parO2_one, minLD_lst, dKeysW, rdPairs_nil, rdPairs_cons, onPair_ii, inTD_lst, gTl, dAugS, dZip3, zip3D_tup, zip3L_cons, zip3L_nil, revD_lst])
local macro_rules | `(tactic| walk_at "dd") => `(tactic| (walk_at "d1"; repeat (with_reducible (refine then_intro ?_); walk_at "d1")))
theorem tkI_pow {p : Nat} (hp : 2 ≤ p) {r : Int} (hr : ¬ (p : Int) ∣ r) : ∀ v : Nat, tkI p (r * (p : Int) ^ v) = (r, v) := by
  have r0 : r ≠ 0 := fun z => hr (by rw [z]; exact ⟨0, by omega⟩)
  intro v
  induction v with
  | zero => rw [Int.pow_zero, Int.mul_one]; exact tkI_none hr
  | succ v ih =>
    have e : r * (p : Int) ^ (v + 1) = (p : Int) * (r * (p : Int) ^ v) := by rw [Int.pow_succ]; grind
    have hv : 0 < (p : Int) ^ v := Int.pow_pos (by omega)
    have h0 : r * (p : Int) ^ v ≠ 0 := Int.mul_ne_zero r0 (by omega)
    rw [e, tkI_mul hp h0, ih]
/-- a square at a prime -/
def SqAt (p : Nat) (a : Int) : Prop := a ≠ 0 ∧ (tkI p a).2 % 2 = 0 ∧ (if p = 2 then (tkI p a).1 % 8 = 1 else leg p (tkI p a).1 = 1)
/-- a prime, any -/
def AnyP (p : Nat) : Prop := p = 2 ∨ OddP p
theorem AnyP.pr {p : Nat} (h : AnyP p) : PrimeI p := by
  rcases h with rfl | h
  · refine ⟨Nat.le_refl _, fun r hr h0 => ?_⟩
    have : r = 1 := by omega
    subst this
    rfl
  · exact h.pr
theorem OddP.ne {p : Nat} (h : OddP p) : p ≠ 2 := by have := h.odd; omega
theorem sq_mod8 {u : Int} (h : ¬ (2 : Int) ∣ u) : u * u % 8 = 1 := by
  have h1 : u % 2 = 1 := by
    rcases (show u % 2 = 0 ∨ u % 2 = 1 by omega) with z | z
    · exact absurd (Int.dvd_of_emod_eq_zero z) h
    · exact z
  have h2 : u % 8 = 1 ∨ u % 8 = 3 ∨ u % 8 = 5 ∨ u % 8 = 7 := by omega
  rw [Int.mul_emod]
  rcases h2 with e | e | e | e <;> rw [e] <;> decide
theorem leg_sq_self {p : Nat} (hp : OddP p) {u : Int} (h : ¬ (p : Int) ∣ u) : leg p (u * u) = 1 := by
  rw [leg_mul hp]
  rcases leg_ne h with e | e <;> rw [e] <;> decide
/-- s s + m j, m a power of p that is three above the size -/
theorem sqAt_near {p : Nat} (hp : AnyP p) {s j : Int} (hs : s ≠ 0) : SqAt p (s * s + (p : Int) ^ (2 * (tkI p s).2 + 3) * j) := by
  have hpr := hp.pr
  obtain ⟨s1, s2, s3⟩ := tkI_spec hpr.1 hs
  generalize (tkI p s).1 = u at *
  generalize (tkI p s).2 = v at *
  have e : s * s + (p : Int) ^ (2 * v + 3) * j = (u * u + (p : Int) ^ 3 * j) * (p : Int) ^ (2 * v) := by
    rw [s1, Int.pow_add, show 2 * v = v + v by omega, Int.pow_add]
    generalize (p : Int) ^ v = P
    grind
  have d3 : (p : Int) ∣ (p : Int) ^ 3 * j := by
    rw [Int.pow_succ]
    exact Int.dvd_mul_of_dvd_left (Int.dvd_mul_left _ _)
  have hnd : ¬ (p : Int) ∣ u * u + (p : Int) ^ 3 * j := fun d => by
    have := Int.dvd_sub d d3
    rw [show u * u + (p : Int) ^ 3 * j - (p : Int) ^ 3 * j = u * u by omega] at this
    rcases hpr.euclid this with z | z <;> exact s3 z
  rw [e]
  refine ⟨?_, ?_, ?_⟩
  · refine Int.mul_ne_zero (fun z => hnd (by rw [z]; exact ⟨0, by omega⟩)) ?_
    have := hpr.1
    have : 0 < (p : Int) ^ (2 * v) := Int.pow_pos (by omega)
    omega
  · rw [tkI_pow hpr.1 hnd]
    show 2 * v % 2 = 0
    omega
  · rw [tkI_pow hpr.1 hnd]
    show if p = 2 then (u * u + (p : Int) ^ 3 * j) % 8 = 1 else leg p (u * u + (p : Int) ^ 3 * j) = 1
    split
    · rename_i p2
      subst p2
      have := sq_mod8 s3
      have e8 : ((2 : Nat) : Int) ^ 3 * j = 8 * j := rfl
      rw [e8]
      omega
    · rename_i p2
      have ho : OddP p := hp.resolve_left p2
      rw [leg_cong ho (b := u * u) (by rw [show u * u + (p : Int) ^ 3 * j - u * u = (p : Int) ^ 3 * j by omega]; exact d3)]
      exact leg_sq_self ho s3
theorem sqAt_sq {p : Nat} (hp : AnyP p) {s : Int} (hs : s ≠ 0) : SqAt p (s * s) := by
  have := sqAt_near hp (j := 0) hs
  rwa [Int.mul_zero, Int.add_zero] at this
/-- 2-adic step -/
theorem two_step {a x : Int} {n : Nat} (hn : 3 ≤ n) (hx : x % 2 = 1) (h : (2 : Int) ^ n ∣ x * x - a) :
    ((2 : Int) ^ (n + 1) ∣ x * x - a) ∨ ((2 : Int) ^ (n + 1) ∣ (x + 2 ^ (n - 1)) * (x + 2 ^ (n - 1)) - a ∧ (x + 2 ^ (n - 1)) % 2 = 1) := by
  obtain ⟨q, hq⟩ := h
  rcases (show q % 2 = 0 ∨ q % 2 = 1 by omega) with z | z
  · left
    refine ⟨q / 2, ?_⟩
    rw [hq, Int.pow_succ, Int.mul_assoc]
    congr 1
    omega
  · right
    obtain ⟨m, rfl⟩ : ∃ m, n = m + 3 := ⟨n - 3, by omega⟩
    have e1 : (2 : Int) ^ (m + 3 - 1) = 2 ^ m * 4 := by rw [show m + 3 - 1 = m + 2 by omega, Int.pow_add]; rfl
    have e2 : (2 : Int) ^ (m + 3) = 2 ^ m * 8 := by rw [Int.pow_add]; rfl
    have e3 : (2 : Int) ^ (m + 3 + 1) = 2 ^ m * 16 := by rw [show m + 3 + 1 = m + 4 by omega, Int.pow_add]; rfl
    rw [e1, e3]
    rw [e2] at hq
    refine ⟨⟨(q + x) / 2 + 2 ^ m, ?_⟩, ?_⟩
    · have hh : q + x = 2 * ((q + x) / 2) := by omega
      generalize (q + x) / 2 = w at *
      generalize (2 : Int) ^ m = P at *
      have : (x + P * 4) * (x + P * 4) - a = (x * x - a) + 8 * (P * x) + 16 * (P * P) := by grind
      rw [this, hq, show P * 8 * q + 8 * (P * x) + 16 * (P * P) = 8 * (P * (q + x)) + 16 * (P * P) by grind, hh]
      grind
    · generalize (2 : Int) ^ m = P at *
      omega
theorem dvd_cancel_pow {p : Nat} (hp : 2 ≤ p) {x : Int} {m k : Nat} (hk : m < k) (h : (p : Int) ^ k ∣ x * (p : Int) ^ m) : (p : Int) ∣ x := by
  obtain ⟨q, hq⟩ := h
  have e : (p : Int) ^ k = (p : Int) ^ m * ((p : Int) * (p : Int) ^ (k - m - 1)) := by
    rw [← Int.pow_succ', ← Int.pow_add]
    congr 1
    omega
  rw [e] at hq
  have pm : (0 : Int) < (p : Int) ^ m := Int.pow_pos (by omega)
  refine ⟨(p : Int) ^ (k - m - 1) * q, ?_⟩
  have : (p : Int) ^ m * x = (p : Int) ^ m * ((p : Int) * ((p : Int) ^ (k - m - 1) * q)) := by grind
  exact Int.eq_of_mul_eq_mul_left (by omega) this
theorem size_sq {p : Nat} (hp : PrimeI p) {y a : Int} {k : Nat} (ha : a ≠ 0) (hk : (tkI p a).2 < k) (h : (p : Int) ^ k ∣ y * y - a) : y ≠ 0 ∧ 2 * (tkI p y).2 = (tkI p a).2 := by
  obtain ⟨a1, a2, a3⟩ := tkI_spec hp.1 ha
  generalize (tkI p a).1 = r at *
  generalize (tkI p a).2 = v at *
  have y0 : y ≠ 0 := fun z => by
    subst z
    have h2 : (p : Int) ^ k ∣ r * (p : Int) ^ v := by
      rw [← a1, ← Int.dvd_neg]
      rwa [Int.mul_zero, Int.zero_sub] at h
    exact a3 (dvd_cancel_pow hp.1 hk h2)
  refine ⟨y0, ?_⟩
  obtain ⟨y1, y2, y3⟩ := tkI_spec hp.1 y0
  generalize (tkI p y).1 = u at *
  generalize (tkI p y).2 = w at *
  have ey : y * y = u * u * (p : Int) ^ (2 * w) := by
    rw [y1, show 2 * w = w + w by omega, Int.pow_add]
    generalize (p : Int) ^ w = W
    grind
  rcases Nat.lt_trichotomy (2 * w) v with z | z | z
  · exfalso
    have e : y * y - a = (u * u - r * (p : Int) ^ (v - 2 * w)) * (p : Int) ^ (2 * w) := by
      have : (p : Int) ^ v = (p : Int) ^ (v - 2 * w) * (p : Int) ^ (2 * w) := by rw [← Int.pow_add]; congr 1; omega
      rw [ey, a1, this]
      grind
    rw [e] at h
    have d := dvd_cancel_pow hp.1 (by omega) h
    have d2 : (p : Int) ∣ r * (p : Int) ^ (v - 2 * w) := by
      rw [show v - 2 * w = v - 2 * w - 1 + 1 by omega, Int.pow_succ]
      exact Int.dvd_mul_of_dvd_right (Int.dvd_mul_left _ _)
    have := Int.dvd_add d d2
    rw [show u * u - r * (p : Int) ^ (v - 2 * w) + r * (p : Int) ^ (v - 2 * w) = u * u by omega] at this
    rcases hp.euclid this with q | q <;> exact y3 q
  · exact z
  · exfalso
    have e : y * y - a = (u * u * (p : Int) ^ (2 * w - v) - r) * (p : Int) ^ v := by
      have : (p : Int) ^ (2 * w) = (p : Int) ^ (2 * w - v) * (p : Int) ^ v := by rw [← Int.pow_add]; congr 1; omega
      rw [ey, a1, this]
      grind
    rw [e] at h
    have d := dvd_cancel_pow hp.1 hk h
    have d2 : (p : Int) ∣ u * u * (p : Int) ^ (2 * w - v) := by
      rw [show 2 * w - v = 2 * w - v - 1 + 1 by omega, Int.pow_succ]
      exact Int.dvd_mul_of_dvd_right (Int.dvd_mul_left _ _)
    have := Int.dvd_sub d2 d
    rw [show u * u * (p : Int) ^ (2 * w - v) - (u * u * (p : Int) ^ (2 * w - v) - r) = r by omega] at this
    exact a3 this
local macro_rules | `(tactic| walk_at "d1") => `(tactic| try simp only [dSeq, dSkip, dPass, dRet, dRetN, dDrop, dCond, dAsg, gNm, gTp, dOwn, dOwnL, dPar, dAug, dApp, dExt, dFrz, dFor, dLc, dBreak, dCont, dVar, dC, dOp, dT, dIsi, dNeg, dNot, dTNot, dAnd, dOr, dTAnd, dTOr, dIf, dCh, dNil, dCons, dTup, dLst, dIxO, dB, dCall, dCallW, dItems, dRng1, dRng2, dYes, fnE, startE, startW, startS, dLenO, dLenS, dIxS, dSl, dPt, dNo, wipeE, addD_int, addD_str, addD_tup, addD_lst, subD_int, mulD_int, mulD_tup, mulD_lst, fdivD_int, modD_int, powD_int, shlD_int, shrD_int, andD_int, ltD_int, leD_int, gtD_int, geD_int, eqD_ap, neD_ap, isD_ap, isNotD_ap, isNon_none, isNon_int, isNon_bool, isNon_str, isNon_tup, isNon_lst, isInt_none, isInt_int, isInt_bool, isInt_str, isInt_tup, isInt_lst, isBool_none, isBool_int, isBool_bool, isBool_str, isBool_tup, isBool_lst, isStr_none, isStr_int, isStr_bool, isStr_str, isStr_tup, isStr_lst, isTup_none, isTup_int, isTup_bool, isTup_str, isTup_tup, isTup_lst, isLst_lst, Cnd_true, Cnd_false, Cnd_not, Cnd_dec, asB_bool, forall_const, true_implies, false_implies, implies_true, decide_true, decide_false, Classical.not_not, negD_int, notD_bool, onVal_val, onOwn_own, onDic_dic, onScr_scr, onWv_wv, onInt_int, onTup_tup, onLst_lst, onItems_lst, onItems_tup, frz1_own, frz1_val, frz1_un, ixD_lst, ixD_tup, ixL_int, optD_some, optI_some, absD_int, intD_int, intD_bool, lenD_lst, lenD_tup, lenD_str, tupleD_lst, tupleD_tup, listD_lst, listD_tup, min2D_int, max2D_int, sumD_ints, allD_bls, anyD_bls, slD_lst, slD_tup, slD_str, gNl_nil, gCs_cons, par2_two, seq1_lst, seq1_tup, rng1D_int, rng2D_int, gt_z, gt_s, sp_next_int, set_z, set_s, List.map_cons, List.map_nil, List.length_cons, List.length_nil, List.cons_append, List.nil_append, List.replicate, Nat.reduceAdd, Nat.reduceSub, Nat.zero_add, shaped_int, shaped_bool, shaped_none, shaped_listI, shaped_tupI, shaped_nilL, shaped_nilT, eqv_int, eqv_bool, eqv_str, eqv_none, eqv_list_nil, List.isEmpty_nil, List.isEmpty_cons, Bool.true_eq_false, Bool.false_eq_true, decide_eq_true_eq, and_self, true_and, and_true, not_dec, Bool.not_eq_true', decide_eq_false_iff_not, atI_0, atI_1, atI_2, ite_true, ite_false, if_true, if_false, reduceIte, Bool.not_true, Bool.not_false, not_true_eq_false, not_false_eq_true, List.set_cons_zero, List.set_cons_succ, dPar3, dRev, par3_three, sortedD_ints, revD_tup, two_nat, one_nat, three_nat, dCh3, dOwnC, dPutPar, putPar_two, dZip2, zip2D_lst, zip2D_tup, dPut, isBD_bl, isNotBD_bl, dNewO, dPutO, dSortedO, putKD_int, dPar3O, dParO2, par3O_two, parO2_one, minLD_lst, dKeysW, rdPairs_nil, rdPairs_cons, onPair_ii, inTD_lst, gTl, dAugS, dZip3, zip3D_tup, zip3L_cons, zip3L_nil, revD_lst])
local macro_rules | `(tactic| walk_at "dd") => `(tactic| (walk_at "d1"; repeat (with_reducible (refine then_intro ?_); walk_at "d1")))
/-! how many small pairs a form of three letters is zero at -/
theorem okT_leg {p : Nat} (hp : OddP p) (t : Nat) : (leg p (t : Int) ≠ -1 → okT p true t = true) ∧ (leg p (t : Int) ≠ 1 → okT p false t = true) := by
  have h3 := hp.three
  have one : ∀ x : Nat, ((p : Int) ∣ (x : Int) - 1) ↔ x % p = 1 := fun x => by
    constructor
    · rintro ⟨k, hk⟩
      have : (x : Int) % p = 1 := by
        rw [show (x : Int) = 1 + p * k by omega, Int.add_mul_emod_self_left]
        exact Int.emod_eq_of_lt (by decide) (by omega)
      omega
    · intro h
      have := Int.mul_ediv_add_emod (x : Int) p
      exact ⟨(x : Int) / p, by omega⟩
  have zero : ((p : Int) ∣ (t : Int)) ↔ t % p = 0 := by
    rw [Int.natCast_dvd_natCast]
    exact Nat.dvd_iff_mod_eq_zero
  have ep : ((t : Int) ^ ((p - 1) / 2)) = ((t ^ ((p - 1) / 2) : Nat) : Int) := (Int.natCast_pow ..).symm
  have a1 : okT p true t = (Nat.beq (t % p) 0 || Nat.beq (t ^ ((p - 1) / 2) % p) 1) := rfl
  have a2 : okT p false t = !Nat.beq (t ^ ((p - 1) / 2) % p) 1 := rfl
  rw [a1, a2]
  unfold leg
  rw [ep]
  constructor
  · intro h
    split at h
    · rename_i z
      rw [zero.mp z]; rfl
    · split at h
      · rename_i z
        rw [(one _).mp z]
        cases Nat.beq (t % p) 0 <;> rfl
      · exact absurd rfl h
  · intro h
    split at h
    · rename_i z
      have k0 : 1 ≤ (p - 1) / 2 := by omega
      have : p ∣ t ^ ((p - 1) / 2) := Nat.dvd_trans (Nat.dvd_of_mod_eq_zero (zero.mp z)) (Nat.dvd_trans (by rw [Nat.pow_one]; exact Nat.dvd_refl _) (Nat.pow_dvd_pow t k0))
      rw [Nat.mod_eq_zero_of_dvd this]
      rfl
    · split at h
      · exact absurd rfl h
      · rename_i z
        cases e : Nat.beq (t ^ ((p - 1) / 2) % p) 1
        · rfl
        · exact absurd ((one _).mpr (Nat.eq_of_beq_eq_true e)) z
/-- squares times one number have one mark -/
theorem one_mark {p : Nat} (hp : OddP p) : ∀ (n : Nat) (C : Int), C.natAbs ≤ n → C ≠ 0 → ∃ e : Int, (e = 1 ∨ e = -1) ∧ ∀ N q : Int, N * C = q * q → leg p N = 0 ∨ leg p N = e := by
  have h3 := hp.three
  intro n
  induction n with
  | zero => intro C h h0; omega
  | succ n ih =>
    intro C hC h0
    by_cases z : (p : Int) ∣ C
    · obtain ⟨c, rfl⟩ := z
      have c0 : c ≠ 0 := fun w => h0 (by rw [w, Int.mul_zero])
      have pq : ∀ {N q : Int}, N * (p * c) = q * q → ∃ r, q = p * r ∧ N * c = p * (r * r) := fun {N q} h => by
        have : (p : Int) ∣ q * q := ⟨N * c, by rw [← h]; grind⟩
        obtain ⟨r, rfl⟩ : (p : Int) ∣ q := (hp.pr.euclid this).elim id id
        refine ⟨r, rfl, ?_⟩
        have : (p : Int) * (N * c) = p * (p * (r * r)) := by rw [show (p : Int) * (N * c) = N * (p * c) by grind, h]; grind
        exact Int.eq_of_mul_eq_mul_left (by omega) this
      by_cases z2 : (p : Int) ∣ c
      · obtain ⟨c1, rfl⟩ := z2
        have c10 : c1 ≠ 0 := fun w => c0 (by rw [w, Int.mul_zero])
        have lt : c1.natAbs ≤ n := by
          have e : (p * (p * c1) : Int).natAbs = p * (p * c1.natAbs) := by rw [Int.natAbs_mul, Int.natAbs_mul, Int.natAbs_natCast]
          have : 1 * (1 * c1.natAbs) < p * (p * c1.natAbs) := Nat.mul_lt_mul_of_lt_of_le (by omega) (Nat.mul_le_mul (by omega) (Nat.le_refl _)) (by have := Nat.mul_pos (show 0 < p by omega) (show 0 < c1.natAbs by omega); omega)
          omega
        obtain ⟨e, he, h⟩ := ih c1 lt c10
        refine ⟨e, he, fun N q hN => ?_⟩
        obtain ⟨r, _, h2⟩ := pq hN
        have : N * c1 = r * r := Int.eq_of_mul_eq_mul_left (a := (p : Int)) (by omega) (by rw [← h2]; grind)
        exact h N r this
      · refine ⟨1, .inl rfl, fun N q hN => ?_⟩
        obtain ⟨r, _, h2⟩ := pq hN
        have : (p : Int) ∣ N * c := ⟨_, h2⟩
        rcases hp.pr.euclid this with w | w
        · exact .inl (leg_zero w)
        · exact absurd w z2
    · refine ⟨leg p C, leg_ne z, fun N q hN => ?_⟩
      have h1 := leg_mul hp N C
      rw [hN] at h1
      by_cases w : (p : Int) ∣ N
      · exact .inl (leg_zero w)
      · right
        have nq : ¬ (p : Int) ∣ q := fun v => by
          have : (p : Int) ∣ N * C := by rw [hN]; exact Int.dvd_mul_of_dvd_left (c := q) v
          rcases hp.pr.euclid this with u | u
          · exact w u
          · exact z u
        rw [leg_sq_self hp nq] at h1
        rcases leg_ne w with a | a <;> rcases leg_ne z with b | b <;> rw [a, b] at h1 ⊢ <;> first | rfl | exact absurd h1 (by decide)
/-- the form is zero on the way of (x, y) -/
def OnW (a b c : Int) (x y : Nat) : Prop := ∃ q : Int, (a * x * x + b * y * y) * -c = q * q
/-- places allowed by a mask -/
def SubW (a b c : Int) (m : Nat) : Prop := ∀ q ∈ cpI, OnW a b c q.2.1 q.2.2 → Nat.testBit m q.1 = true
theorem tab_some {p : Nat} (hp : OddP p) {ts : List Nat} (ok : tabOk p ts = true) {a b c : Int} (c0 : c ≠ 0) (ha : ¬ (p : Int) ∣ a) (hb : ¬ (p : Int) ∣ b) : ∃ T ∈ ts, SubW a b c T := by
  have h3 := hp.three
  obtain ⟨e, he, mark⟩ := one_mark hp _ (-c) (Nat.le_refl _) (by omega)
  -- s with s b = a
  obtain ⟨s, s0, s1, hs⟩ : ∃ s : Nat, s < p - 1 ∧ True ∧ (p : Int) ∣ ((s : Int) + 1) * b - a := by
    obtain ⟨j, hj⟩ := fermat hp.pr hb
    rw [show p - 1 = (p - 2) + 1 by omega, Int.pow_succ] at hj
    generalize b ^ (p - 2) = u at hj
    have f0 := Int.emod_nonneg (a * u) (show (p : Int) ≠ 0 by omega)
    have f1 := Int.emod_lt_of_pos (a * u) (show (0 : Int) < p by omega)
    have f2 := Int.mul_ediv_add_emod (a * u) p
    generalize (a * u) / p = k at *
    generalize hr : (a * u) % p = r at *
    have dv : (p : Int) ∣ r * b - a := by
      refine ⟨a * j - k * b, ?_⟩
      have : r = a * u - p * k := by omega
      rw [this]
      have : a * (u * b - 1) = a * (p * j) := by rw [hj]
      grind
    have rne : r ≠ 0 := fun w => by
      rw [w] at dv
      exact ha (by
        obtain ⟨k2, hk2⟩ := dv
        exact ⟨-k2, by rw [Int.mul_neg]; omega⟩)
    exact ⟨(r - 1).toNat, by omega, trivial, by rw [show (((r - 1).toNat : Nat) : Int) + 1 = r by omega]; exact dv⟩
  unfold tabOk at ok
  rw [List.all_eq_true] at ok
  have ok1 := ok s (List.mem_range.mpr s0)
  rw [List.all_eq_true] at ok1
  -- the class of t
  obtain ⟨bl, hbl, cls⟩ : ∃ bl : Bool, bl ∈ [true, false] ∧ ∀ t : Nat, (leg p (t : Int) = 0 ∨ leg p b * leg p (t : Int) = e) → okT p bl t = true := by
    have lb := leg_ne hb
    by_cases w : leg p b * e = 1
    · refine ⟨true, by simp, fun t ht => (okT_leg hp t).1 fun v => ?_⟩
      rcases ht with u | u
      · rw [v] at u; exact absurd u (by decide)
      · rw [v] at u
        rcases lb with a | a <;> rcases he with b | b <;> rw [a] at u w <;> rw [b] at u w <;> first | exact absurd u (by decide) | exact absurd w (by decide)
    · refine ⟨false, by simp, fun t ht => (okT_leg hp t).2 fun v => ?_⟩
      rcases ht with u | u
      · rw [v] at u; exact absurd u (by decide)
      · rw [v] at u
        rcases lb with a | a <;> rcases he with b | b <;> rw [a] at u w <;> rw [b] at u w <;> first | exact absurd u (by decide) | exact absurd (by decide) w
  have ok2 := ok1 bl hbl
  rw [List.any_eq_true] at ok2
  obtain ⟨T, hT, ok3⟩ := ok2
  rw [List.all_eq_true] at ok3
  refine ⟨T, hT, fun q hq on => ?_⟩
  have ok4 := ok3 q hq
  rw [Bool.or_eq_true] at ok4
  refine ok4.resolve_left fun w => ?_
  have te : (Nat.add (Nat.mul (Nat.mul (Nat.succ s) q.2.1) q.2.1) (Nat.mul q.2.2 q.2.2)) = (s + 1) * q.2.1 * q.2.1 + q.2.2 * q.2.2 := rfl
  rw [te] at w
  obtain ⟨u, hu⟩ := on
  have tn : leg p (((s + 1) * q.2.1 * q.2.1 + q.2.2 * q.2.2 : Nat) : Int) = 0 ∨ leg p b * leg p (((s + 1) * q.2.1 * q.2.1 + q.2.2 * q.2.2 : Nat) : Int) = e := by
    have cong : leg p (a * q.2.1 * q.2.1 + b * q.2.2 * q.2.2) = leg p b * leg p (((s + 1) * q.2.1 * q.2.1 + q.2.2 * q.2.2 : Nat) : Int) := by
      rw [← leg_mul hp]
      refine leg_cong hp ?_
      obtain ⟨k, hk⟩ := hs
      refine ⟨-(k * q.2.1 * q.2.1), ?_⟩
      have : a = ((s : Int) + 1) * b - p * k := by omega
      rw [this]
      simp only [Int.natCast_add, Int.natCast_mul, Int.natCast_one]
      grind
    rcases mark _ u hu with v | v
    · rw [cong] at v
      rcases leg_ne hb with x | x <;> rw [x] at v <;> exact .inl (by omega)
    · rw [cong] at v
      exact .inr v
  rw [cls _ tn] at w
  exact absurd w (by decide)
local macro_rules | `(tactic| walk_at "d1") => `(tactic| try simp only [dSeq, dSkip, dPass, dRet, dRetN, dDrop, dCond, dAsg, gNm, gTp, dOwn, dOwnL, dPar, dAug, dApp, dExt, dFrz, dFor, dLc, dBreak, dCont, dVar, dC, dOp, dT, dIsi, dNeg, dNot, dTNot, dAnd, dOr, dTAnd, dTOr, dIf, dCh, dNil, dCons, dTup, dLst, dIxO, dB, dCall, dCallW, dItems, dRng1, dRng2, dYes, fnE, startE, startW, startS, dLenO, dLenS, dIxS, dSl, dPt, dNo, wipeE, addD_int, addD_str, addD_tup, addD_lst, subD_int, mulD_int, mulD_tup, mulD_lst, fdivD_int, modD_int, powD_int, shlD_int, shrD_int, andD_int, ltD_int, leD_int, gtD_int, geD_int, eqD_ap, neD_ap, isD_ap, isNotD_ap, isNon_none, isNon_int, isNon_bool, isNon_str, isNon_tup, isNon_lst, isInt_none, isInt_int, isInt_bool, isInt_str, isInt_tup, isInt_lst, isBool_none, isBool_int, isBool_bool, isBool_str, isBool_tup, isBool_lst, isStr_none, isStr_int, isStr_bool, isStr_str, isStr_tup, isStr_lst, isTup_none, isTup_int, isTup_bool, isTup_str, isTup_tup, isTup_lst, isLst_lst, Cnd_true, Cnd_false, Cnd_not, Cnd_dec, asB_bool, forall_const, true_implies, false_implies, implies_true, decide_true, decide_false, Classical.not_not, negD_int, notD_bool, onVal_val, onOwn_own, onDic_dic, onScr_scr, onWv_wv, onInt_int, onTup_tup, onLst_lst, onItems_lst, onItems_tup, frz1_own, frz1_val, frz1_un, ixD_lst, ixD_tup, ixL_int, optD_some, optI_some, absD_int, intD_int, intD_bool, lenD_lst, lenD_tup, lenD_str, tupleD_lst, tupleD_tup, listD_lst, listD_tup, min2D_int, max2D_int, sumD_ints, allD_bls, anyD_bls, slD_lst, slD_tup, slD_str, gNl_nil, gCs_cons, par2_two, seq1_lst, seq1_tup, rng1D_int, rng2D_int, gt_z, gt_s, sp_next_int, set_z, set_s, List.map_cons, List.map_nil, List.length_cons, List.length_nil, List.cons_append, List.nil_append, List.replicate, Nat.reduceAdd, Nat.reduceSub, Nat.zero_add, shaped_int, shaped_bool, shaped_none, shaped_listI, shaped_tupI, shaped_nilL, shaped_nilT, eqv_int, eqv_bool, eqv_str, eqv_none, eqv_list_nil, List.isEmpty_nil, List.isEmpty_cons, Bool.true_eq_false, Bool.false_eq_true, decide_eq_true_eq, and_self, true_and, and_true, not_dec, Bool.not_eq_true', decide_eq_false_iff_not, atI_0, atI_1, atI_2, ite_true, ite_false, if_true, if_false, reduceIte, Bool.not_true, Bool.not_false, not_true_eq_false, not_false_eq_true, List.set_cons_zero, List.set_cons_succ, dPar3, dRev, par3_three, sortedD_ints, revD_tup, two_nat, one_nat, three_nat, dCh3, dOwnC, dPutPar, putPar_two, dZip2, zip2D_lst, zip2D_tup, dPut, isBD_bl, isNotBD_bl, dNewO, dPutO, dSortedO, putKD_int, dPar3O, dParO2, par3O_two, parO2_one, minLD_lst, dKeysW, rdPairs_nil, rdPairs_cons, onPair_ii, inTD_lst, gTl, dAugS, dZip3, zip3D_tup, zip3L_cons, zip3L_nil, revD_lst])
local macro_rules | `(tactic| walk_at "dd") => `(tactic| (walk_at "d1"; repeat (with_reducible (refine then_intro ?_); walk_at "d1")))
theorem dfs_sound {a b c : Int} (a0 : a ≠ 0) (b0 : b ≠ 0) (c0 : c ≠ 0) (ha : a.natAbs ≤ 3485) (hb : b.natAbs ≤ 41) : ∀ (l : List (Nat × List Nat)) (m A B : Nat), dfs l m A B = true → A ∣ a.natAbs → B ∣ b.natAbs →
    (∀ q ∈ l, OddP q.1 ∧ tabOk q.1 q.2 = true ∧ Nat.Coprime A q.1 ∧ Nat.Coprime B q.1) → l.Pairwise (fun x y => Nat.Coprime x.1 y.1) → SubW a b c m → (∀ j, m.testBit j = true → fullM.testBit j = true) →
    ∃ m' : Nat, SubW a b c m' ∧ m' % 63 ≤ 14 ∧ ∀ j, m'.testBit j = true → fullM.testBit j = true
  | [], m, A, B, h, _, _, _, _, sm, fm => ⟨m, sm, Nat.le_of_ble_eq_true h, fm⟩
  | (p, ts) :: r, m, A, B, h, hA, hB, hl, hp, sm, fm => by
    have e : dfs ((p, ts) :: r) m A B = (Nat.ble (m % 63) 14 || ((!Nat.ble (A * p) 3485 || dfs r m (A * p) B) && ((!Nat.ble (B * p) 41 || dfs r m A (B * p)) && (ts.all fun t => dfs r (m &&& t) A B)))) := rfl
    rw [e, Bool.or_eq_true, Bool.and_eq_true, Bool.and_eq_true] at h
    rcases h with h | ⟨h1, h2, h3⟩
    · exact ⟨m, sm, Nat.le_of_ble_eq_true h, fm⟩
    · obtain ⟨op, tk, cA, cB⟩ := hl (p, ts) List.mem_cons_self
      have op : OddP p := op
      obtain ⟨hp1, hp2⟩ := List.pairwise_cons.mp hp
      have rest := fun q hq => hl q (List.mem_cons_of_mem _ hq)
      by_cases za : (p : Int) ∣ a
      · have d : A * p ∣ a.natAbs := Nat.Coprime.mul_dvd_of_dvd_of_dvd cA hA (Int.ofNat_dvd_left.mp za)
        have le := Nat.le_of_dvd (by omega) d
        have h1' : dfs r m (A * p) B = true := by
          rw [Nat.ble_eq_true_of_le (Nat.le_trans le ha)] at h1
          exact h1
        exact dfs_sound a0 b0 c0 ha hb r m (A * p) B h1' d hB (fun q hq => ⟨(rest q hq).1, (rest q hq).2.1, Nat.Coprime.mul_left (rest q hq).2.2.1 (hp1 q hq), (rest q hq).2.2.2⟩) hp2 sm fm
      · by_cases zb : (p : Int) ∣ b
        · have d : B * p ∣ b.natAbs := Nat.Coprime.mul_dvd_of_dvd_of_dvd cB hB (Int.ofNat_dvd_left.mp zb)
          have le := Nat.le_of_dvd (by omega) d
          have h2' : dfs r m A (B * p) = true := by
            rw [Nat.ble_eq_true_of_le (Nat.le_trans le hb)] at h2
            exact h2
          exact dfs_sound a0 b0 c0 ha hb r m A (B * p) h2' hA d (fun q hq => ⟨(rest q hq).1, (rest q hq).2.1, (rest q hq).2.2.1, Nat.Coprime.mul_left (rest q hq).2.2.2 (hp1 q hq)⟩) hp2 sm fm
        · obtain ⟨T, hT, sT⟩ := tab_some op tk c0 za zb
          rw [List.all_eq_true] at h3
          refine dfs_sound a0 b0 c0 ha hb r (m &&& T) A B (h3 T hT) hA hB rest hp2 (fun q hq on => ?_) fun j hj => ?_
          · rw [Nat.testBit_and, sm q hq on, sT q hq on]; rfl
          · rw [Nat.testBit_and, Bool.and_eq_true] at hj
            exact fm j hj.1
/-- a number whose ones stand at every sixth place -/
theorem dig : ∀ (n m : Nat), (∀ j, m.testBit j = true → j % 6 = 0 ∧ j < 6 * n) → m % 63 = ((List.range n).countP fun i => m.testBit (6 * i)) % 63
  | 0, m, h => by
    have : m = 0 := Nat.eq_of_testBit_eq fun j => by
      rw [Nat.zero_testBit]
      cases e : m.testBit j
      · rfl
      · exact absurd (h j e).2 (by omega)
    rw [this]; rfl
  | n + 1, m, h => by
    have ih := dig n (m / 64) fun j hj => by
      have e := Nat.testBit_div_two_pow (n := 6) m j
      rw [show (2 : Nat) ^ 6 = 64 from rfl] at e
      rw [e] at hj
      have := h _ hj
      omega
    have e6 : ∀ j, (m / 64).testBit j = m.testBit (j + 6) := fun j => by
      have e := Nat.testBit_div_two_pow (n := 6) m j
      rw [show (2 : Nat) ^ 6 = 64 from rfl] at e
      exact e
    have low : m % 64 = if m.testBit 0 then 1 else 0 := by
      refine Nat.eq_of_testBit_eq fun j => ?_
      have e := Nat.testBit_mod_two_pow m 6 j
      rw [show (2 : Nat) ^ 6 = 64 from rfl] at e
      rw [e]
      by_cases z : j = 0
      · subst z
        cases m.testBit 0 <;> rfl
      · have hr : Nat.testBit (if m.testBit 0 = true then 1 else 0) j = false := by
          cases m.testBit 0
          · exact Nat.zero_testBit j
          · have : Nat.testBit 1 j = decide (j = 0) := by
              rw [show (1 : Nat) = 2 ^ 0 from rfl, Nat.testBit_two_pow]
              simp [eq_comm]
            rw [if_pos rfl, this, decide_eq_false z]
        rw [hr]
        by_cases z2 : j < 6
        · rw [decide_eq_true z2, Bool.true_and]
          cases e : m.testBit j
          · rfl
          · exact absurd (h j e).1 (by omega)
        · rw [decide_eq_false z2, Bool.false_and]
    have cnt : ((List.range (n + 1)).countP fun i => m.testBit (6 * i)) = (if m.testBit 0 then 1 else 0) + (List.range n).countP fun i => (m / 64).testBit (6 * i) := by
      rw [List.range_succ_eq_map, List.countP_cons, List.countP_map, Nat.add_comm]
      congr 1
      refine List.countP_congr fun i _ => ?_
      show m.testBit (6 * (i + 1)) = true ↔ _
      rw [e6, show 6 * (i + 1) = 6 * i + 6 by omega]
    rw [cnt, ← low]
    have := Nat.div_add_mod m 64
    omega
theorem fullM_ok : ((List.range 258).all fun j => !Nat.testBit fullM j || decide (j % 6 = 0)) = true ∧ fullM < 2 ^ 258 := by decide +kernel
theorem ord_good : (ordL.all fun q => primeT q.1 && decide (q.1 % 2 = 1)) = true := by decide +kernel
theorem ord_cop : ordL.Pairwise (fun x y => Nat.Coprime x.1 y.1) := by
  have : (ordL.map Prod.fst).Pairwise (fun x y => Nat.gcd x y = 1) := by decide +kernel
  exact List.pairwise_map.mp this
theorem ord_tab : ∀ q ∈ ordL, tabOk q.1 q.2 = true := by
  intro q hq
  simp only [ordL, List.mem_cons, List.not_mem_nil, or_false] at hq
  rcases hq with rfl | rfl | rfl | rfl | rfl | rfl | rfl | rfl | rfl
  · exact tabOk13
  · exact tabOk17
  · exact tabOk11
  · exact tabOk7
  · exact tabOk19
  · exact tabOk5
  · exact tabOk23
  · exact tabOk29
  · exact tabOk37
theorem cpI_len : cpI.map (·.1) = (List.range 43).map (6 * ·) := by decide +kernel
theorem full_all : ∀ q ∈ cpI, Nat.testBit fullM q.1 = true := by
  have : (cpI.all fun q => Nat.testBit fullM q.1) = true := by decide +kernel
  exact List.all_eq_true.mp this
open Classical in
theorem few_ways {a b c : Int} (a0 : a ≠ 0) (b0 : b ≠ 0) (c0 : c ≠ 0) (ha : a.natAbs ≤ 3485) (hb : b.natAbs ≤ 41) : (cpL.countP fun p => decide (OnW a b c p.1 p.2)) ≤ 14 := by
  have good := List.all_eq_true.mp ord_good
  obtain ⟨m, sm, mm, fm⟩ := dfs_sound a0 b0 c0 ha hb ordL fullM 1 1 dfs_ok (Nat.one_dvd _) (Nat.one_dvd _) (fun q hq => by
    have := good q hq
    rw [Bool.and_eq_true, decide_eq_true_eq] at this
    exact ⟨⟨primeT_is this.1, this.2⟩, ord_tab q hq, Nat.coprime_one_left _, Nat.coprime_one_left _⟩) ord_cop (fun q hq _ => full_all q hq) (fun j h => h)
  obtain ⟨f1, f2⟩ := fullM_ok
  have dg := dig 43 m fun j hj => by
    have h1 := fm j hj
    have h2 : j < 258 := by
      rcases Nat.lt_or_ge j 258 with z | z
      · exact z
      · rw [Nat.testBit_lt_two_pow (Nat.lt_of_lt_of_le f2 (Nat.pow_le_pow_right (by decide) z))] at h1
        cases h1
    have := List.all_eq_true.mp f1 j (List.mem_range.mpr h2)
    rw [h1] at this
    exact ⟨of_decide_eq_true this, h2⟩
  have le43 : ((List.range 43).countP fun i => m.testBit (6 * i)) ≤ 43 := by
    have := List.countP_le_length (p := fun i => m.testBit (6 * i)) (l := List.range 43)
    rwa [List.length_range] at this
  have le14 : ((List.range 43).countP fun i => m.testBit (6 * i)) ≤ 14 := by omega
  -- the same, said of cpI
  have e1 : ((List.range 43).countP fun i => m.testBit (6 * i)) = cpI.countP fun q => m.testBit q.1 := by
    have := congrArg (List.countP fun j => m.testBit j) cpI_len
    rw [List.countP_map, List.countP_map] at this
    exact this.symm
  have e2 : (cpL.countP fun p => decide (OnW a b c p.1 p.2)) = cpI.countP fun q => decide (OnW a b c q.2.1 q.2.2) := by
    have : cpI.map (fun q => q.2) = cpL := by decide +kernel
    rw [← this, List.countP_map]
    rfl
  rw [e2]
  refine Nat.le_trans (List.countP_mono_left fun q hq h => ?_) (e1 ▸ le14)
  exact sm q hq (of_decide_eq_true h)
local macro_rules | `(tactic| walk_at "d1") => `(tactic| try simp only [dSeq, dSkip, dPass, dRet, dRetN, dDrop, dCond, dAsg, gNm, gTp, dOwn, dOwnL, dPar, dAug, dApp, dExt, dFrz, dFor, dLc, dBreak, dCont, dVar, dC, dOp, dT, dIsi, dNeg, dNot, dTNot, dAnd, dOr, dTAnd, dTOr, dIf, dCh, dNil, dCons, dTup, dLst, dIxO, dB, dCall, dCallW, dItems, dRng1, dRng2, dYes, fnE, startE, startW, startS, dLenO, dLenS, dIxS, dSl, dPt, dNo, wipeE, addD_int, addD_str, addD_tup, addD_lst, subD_int, mulD_int, mulD_tup, mulD_lst, fdivD_int, modD_int, powD_int, shlD_int, shrD_int, andD_int, ltD_int, leD_int, gtD_int, geD_int, eqD_ap, neD_ap, isD_ap, isNotD_ap, isNon_none, isNon_int, isNon_bool, isNon_str, isNon_tup, isNon_lst, isInt_none, isInt_int, isInt_bool, isInt_str, isInt_tup, isInt_lst, isBool_none, isBool_int, isBool_bool, isBool_str, isBool_tup, isBool_lst, isStr_none, isStr_int, isStr_bool, isStr_str, isStr_tup, isStr_lst, isTup_none, isTup_int, isTup_bool, isTup_str, isTup_tup, isTup_lst, isLst_lst, Cnd_true, Cnd_false, Cnd_not, Cnd_dec, asB_bool, forall_const, true_implies, false_implies, implies_true, decide_true, decide_false, Classical.not_not, negD_int, notD_bool, onVal_val, onOwn_own, onDic_dic, onScr_scr, onWv_wv, onInt_int, onTup_tup, onLst_lst, onItems_lst, onItems_tup, frz1_own, frz1_val, frz1_un, ixD_lst, ixD_tup, ixL_int, optD_some, optI_some, absD_int, intD_int, intD_bool, lenD_lst, lenD_tup, lenD_str, tupleD_lst, tupleD_tup, listD_lst, listD_tup, min2D_int, max2D_int, sumD_ints, allD_bls, anyD_bls, slD_lst, slD_tup, slD_str, gNl_nil, gCs_cons, par2_two, seq1_lst, seq1_tup, rng1D_int, rng2D_int, gt_z, gt_s, sp_next_int, set_z, set_s, List.map_cons, List.map_nil, List.length_cons, List.length_nil, List.cons_append, List.nil_append, List.replicate, Nat.reduceAdd, Nat.reduceSub, Nat.zero_add, shaped_int, shaped_bool, shaped_none, shaped_listI, shaped_tupI, shaped_nilL, shaped_nilT, eqv_int, eqv_bool, eqv_str, eqv_none, eqv_list_nil, List.isEmpty_nil, List.isEmpty_cons, Bool.true_eq_false, Bool.false_eq_true, decide_eq_true_eq, and_self, true_and, and_true, not_dec, Bool.not_eq_true', decide_eq_false_iff_not, atI_0, atI_1, atI_2, ite_true, ite_false, if_true, if_false, reduceIte, Bool.not_true, Bool.not_false, not_true_eq_false, not_false_eq_true, List.set_cons_zero, List.set_cons_succ, dPar3, dRev, par3_three, sortedD_ints, revD_tup, two_nat, one_nat, three_nat, dCh3, dOwnC, dPutPar, putPar_two, dZip2, zip2D_lst, zip2D_tup, dPut, isBD_bl, isNotBD_bl, dNewO, dPutO, dSortedO, putKD_int, dPar3O, dParO2, par3O_two, parO2_one, minLD_lst, dKeysW, rdPairs_nil, rdPairs_cons, onPair_ii, inTD_lst, gTl, dAugS, dZip3, zip3D_tup, zip3L_cons, zip3L_nil, revD_lst])
local macro_rules | `(tactic| walk_at "dd") => `(tactic| (walk_at "d1"; repeat (with_reducible (refine then_intro ?_); walk_at "d1")))
theorem sq_root {M w u : Int} (w0 : w ≠ 0) (h : M * (w * w) = u * u) : ∃ q : Int, M = q * q := by
  have h2 : w ∣ u := by
    have e : w.natAbs ^ 2 ∣ u.natAbs ^ 2 := by
      have := congrArg Int.natAbs h
      rw [Int.natAbs_mul, Int.natAbs_mul, Int.natAbs_mul] at this
      exact ⟨M.natAbs, by rw [Nat.pow_two, Nat.pow_two, ← this, Nat.mul_comm]⟩
    exact Int.natAbs_dvd_natAbs.mp ((Nat.pow_dvd_pow_iff (by decide)).mp e)
  obtain ⟨q, rfl⟩ := h2
  have ne : w * w ≠ 0 := fun z => (Int.mul_eq_zero.mp z).elim w0 w0
  refine ⟨q, Int.eq_of_mul_eq_mul_right ne ?_⟩
  rw [h]
  grind
/-- a zero without a common divisor, the first that is not 0 above 0 -/
structure ZerP (a b c X Y Z : Int) : Prop where
  zero : a * X * X + b * Y * Y + c * Z * Z = 0
  prim : Nat.gcd (Int.gcd X Y) Z.natAbs = 1
  first : 0 < X ∨ (X = 0 ∧ 0 < Y) ∨ (X = 0 ∧ Y = 0 ∧ 0 < Z)
  bx : X ≤ 8
  by' : Y.natAbs ≤ 8
theorem cpL_all (x : Nat) (hx : x ≤ 8) (y : Nat) (hy : y ≤ 8) (x1 : 1 ≤ x) (y1 : 1 ≤ y) (g : Nat.gcd x y = 1) : (x, y) ∈ cpL := by
  have all : ((List.range 9).all fun x => (List.range 9).all fun y => decide (x = 0) || decide (y = 0) || !decide (Nat.gcd x y = 1) || decide ((x, y) ∈ cpL)) = true := by decide +kernel
  have h := List.all_eq_true.mp (List.all_eq_true.mp all x (List.mem_range.mpr (by omega))) y (List.mem_range.mpr (by omega))
  rw [decide_eq_false (show ¬ x = 0 by omega), decide_eq_false (show ¬ y = 0 by omega), decide_eq_true g] at h
  simpa using h
theorem cpL_swap : (cpL.map fun p => (p.2, p.1)).Perm cpL := by decide +kernel
abbrev Code := (Nat × Nat) × Bool × Bool
def codeZ (X Y Z : Int) : Code := ((X.natAbs / Int.gcd X Y, Y.natAbs / Int.gcd X Y), decide (Y < 0), decide (Z < 0))
theorem nodup_few {α : Type} [DecidableEq α] : ∀ (l E : List α), l.Nodup → (∀ x ∈ l, x ∈ E) → l.length ≤ E.length
  | [], _, _, _ => Nat.zero_le _
  | x :: l, E, hn, hs => by
    obtain ⟨h1, h2⟩ := List.nodup_cons.mp hn
    have hx : x ∈ E := hs x List.mem_cons_self
    have ih := nodup_few l (E.erase x) h2 fun y hy => (List.mem_erase_of_ne fun (e : y = x) => h1 (by rw [← e]; exact hy)).mpr (hs y (List.mem_cons_of_mem _ hy))
    have e := List.length_erase_of_mem hx
    have hp : 0 < E.length := List.length_pos_of_mem hx
    rw [List.length_cons]
    omega
section
variable {a b c : Int} (a0 : a ≠ 0) (b0 : b ≠ 0) (c0 : c ≠ 0)
include a0 b0 c0
theorem ZerP.xy {X Y Z : Int} (h : ZerP a b c X Y Z) : X ≠ 0 ∨ Y ≠ 0 := by
  rcases h.first with z | ⟨_, z⟩ | ⟨z1, z2, z3⟩
  · exact .inl (by omega)
  · exact .inr (by omega)
  · exfalso
    have e := h.zero
    rw [z1, z2] at e
    have e : c * (Z * Z) = 0 := by rw [← Int.mul_assoc]; omega
    rcases Int.mul_eq_zero.mp e with w | w
    · exact c0 w
    · have := Int.mul_pos z3 z3
      omega
theorem ZerP.g0 {X Y Z : Int} (h : ZerP a b c X Y Z) : 0 < Int.gcd X Y := by
  rcases Nat.eq_zero_or_pos (Int.gcd X Y) with z | z
  · obtain ⟨h1, h2⟩ := Int.gcd_eq_zero_iff.mp z
    rcases h.xy a0 b0 c0 with w | w
    · exact absurd h1 w
    · exact absurd h2 w
  · exact z
theorem codeZ_inj {X Y Z X' Y' Z' : Int} (h : ZerP a b c X Y Z) (h' : ZerP a b c X' Y' Z') (e : codeZ X Y Z = codeZ X' Y' Z') : X = X' ∧ Y = Y' ∧ Z = Z' := by
  have g0 := h.g0 a0 b0 c0
  have g0' := h'.g0 a0 b0 c0
  unfold codeZ at e
  simp only [Prod.mk.injEq] at e
  obtain ⟨⟨e1, e2⟩, e3, e4⟩ := e
  have X0 : 0 ≤ X := by rcases h.first with z | z | z <;> omega
  have X0' : 0 ≤ X' := by rcases h'.first with z | z | z <;> omega
  have dx := Nat.div_mul_cancel (Int.natAbs_dvd_natAbs.mpr (Int.gcd_dvd_left (a := X) (b := Y)))
  have dy := Nat.div_mul_cancel (Int.natAbs_dvd_natAbs.mpr (Int.gcd_dvd_right (a := X) (b := Y)))
  have dx' := Nat.div_mul_cancel (Int.natAbs_dvd_natAbs.mpr (Int.gcd_dvd_left (a := X') (b := Y')))
  have dy' := Nat.div_mul_cancel (Int.natAbs_dvd_natAbs.mpr (Int.gcd_dvd_right (a := X') (b := Y')))
  rw [Int.natAbs_natCast] at dx dy dx' dy'
  rw [e1] at dx
  rw [e2] at dy
  generalize hg : Int.gcd X Y = g at *
  generalize hg' : Int.gcd X' Y' = g' at *
  generalize X'.natAbs / g' = x at *
  generalize Y'.natAbs / g' = y at *
  have eX : X = x * g := by have : X = (X.natAbs : Int) := by omega
                            rw [this, ← dx, Int.natCast_mul]
  have eX' : X' = x * g' := by have : X' = (X'.natAbs : Int) := by omega
                               rw [this, ← dx', Int.natCast_mul]
  have s3 : Y < 0 ↔ Y' < 0 := by rw [decide_eq_decide] at e3; exact e3
  have s4 : Z < 0 ↔ Z' < 0 := by rw [decide_eq_decide] at e4; exact e4
  have mX : (g' : Int) * X = g * X' := by rw [eX, eX']; grind
  have mY : (g' : Int) * Y = g * Y' := by
    have n1 : (Y.natAbs : Int) = y * g := by rw [← dy, Int.natCast_mul]
    have n2 : (Y'.natAbs : Int) = y * g' := by rw [← dy', Int.natCast_mul]
    by_cases z : Y < 0
    · have z' := s3.mp z
      have k1 : Y = -(y * g) := by omega
      have k2 : Y' = -(y * g') := by omega
      rw [k1, k2]; grind
    · have z' : ¬ Y' < 0 := fun w => z (s3.mpr w)
      have k1 : Y = y * g := by omega
      have k2 : Y' = y * g' := by omega
      rw [k1, k2]; grind
  have mZ : (g' : Int) * Z = g * Z' := by
    have q1 : c * ((g' * Z) * (g' * Z)) = c * ((g * Z') * (g * Z')) := by
      have k1 : c * ((g' * Z) * (g' * Z)) = g' * g' * (c * Z * Z) := by grind
      have k2 : c * ((g * Z') * (g * Z')) = g * g * (c * Z' * Z') := by grind
      have z1 := h.zero
      have z2 := h'.zero
      have k3 : c * Z * Z = -(a * X * X + b * Y * Y) := by omega
      have k4 : c * Z' * Z' = -(a * X' * X' + b * Y' * Y') := by omega
      rw [k1, k2, k3, k4]
      have j1 : (g' : Int) * g' * -(a * X * X + b * Y * Y) = -(a * ((g' * X) * (g' * X)) + b * ((g' * Y) * (g' * Y))) := by grind
      rw [j1, mX, mY]
      grind
    have q2 := Int.eq_of_mul_eq_mul_left c0 q1
    have q3 : ((g' : Int) * Z - g * Z') * (g' * Z + g * Z') = 0 := by grind
    rcases Int.mul_eq_zero.mp q3 with w | w
    · omega
    · by_cases z : Z < 0
      · have z' := s4.mp z
        have := Int.mul_neg_of_pos_of_neg (show (0 : Int) < g' by omega) z
        have := Int.mul_neg_of_pos_of_neg (show (0 : Int) < g by omega) z'
        omega
      · have z' : ¬ Z' < 0 := fun w => z (s4.mpr w)
        have := Int.mul_nonneg (show (0 : Int) ≤ g' by omega) (show 0 ≤ Z by omega)
        have := Int.mul_nonneg (show (0 : Int) ≤ g by omega) (show 0 ≤ Z' by omega)
        omega
  have eg : g' = g := by
    have p1 : Nat.gcd (Int.gcd ((g' : Int) * X) (g' * Y)) ((g' : Int) * Z).natAbs = g' := by
      rw [Int.gcd_mul_left, Int.natAbs_mul, Int.natAbs_natCast, Nat.gcd_mul_left, h.prim, Nat.mul_one]
    have p2 : Nat.gcd (Int.gcd ((g : Int) * X') (g * Y')) ((g : Int) * Z').natAbs = g := by
      rw [Int.gcd_mul_left, Int.natAbs_mul, Int.natAbs_natCast, Nat.gcd_mul_left, h'.prim, Nat.mul_one]
    rw [mX, mY, mZ, p2] at p1
    exact p1.symm
  subst eg
  have gi : (g' : Int) ≠ 0 := by omega
  exact ⟨Int.eq_of_mul_eq_mul_left gi mX, Int.eq_of_mul_eq_mul_left gi mY, Int.eq_of_mul_eq_mul_left gi mZ⟩
open Classical in
theorem code_in {X Y Z : Int} (h : ZerP a b c X Y Z) : codeZ X Y Z ∈ ((cpL.filter fun p => decide (OnW a b c p.1 p.2)).flatMap fun p => [(p, false, false), (p, false, true), (p, true, false), (p, true, true)]) ++ ([((0, 1), false, false), ((0, 1), false, true), ((1, 0), false, false), ((1, 0), false, true)] : List Code) := by
  have g0 := h.g0 a0 b0 c0
  rw [List.mem_append]
  unfold codeZ
  by_cases zx : X = 0
  · right
    have y0 : 0 < Y := by
      rcases h.first with z | z | z
      · omega
      · exact z.2
      · exact absurd (h.xy a0 b0 c0) (by omega)
    subst zx
    rw [Int.gcd_zero_left, decide_eq_false (show ¬ Y < 0 by omega), Nat.div_self (by omega), Int.natAbs_zero, Nat.zero_div]
    cases decide (Z < 0) <;> simp
  · have x0 : 0 < X := by rcases h.first with z | z | z <;> omega
    by_cases zy : Y = 0
    · right
      subst zy
      rw [Int.gcd_zero_right, decide_eq_false (show ¬ (0 : Int) < 0 by omega), Nat.div_self (by omega), Int.natAbs_zero, Nat.zero_div]
      cases decide (Z < 0) <;> simp
    · left
      rw [List.mem_flatMap]
      refine ⟨(X.natAbs / Int.gcd X Y, Y.natAbs / Int.gcd X Y), ?_, by cases decide (Y < 0) <;> cases decide (Z < 0) <;> simp⟩
      have dx := Nat.div_mul_cancel (Int.natAbs_dvd_natAbs.mpr (Int.gcd_dvd_left (a := X) (b := Y)))
      have dy := Nat.div_mul_cancel (Int.natAbs_dvd_natAbs.mpr (Int.gcd_dvd_right (a := X) (b := Y)))
      rw [Int.natAbs_natCast] at dx dy
      have bx := h.bx
      have by' := h.by'
      have lx := Nat.div_le_self X.natAbs (Int.gcd X Y)
      have ly := Nat.div_le_self Y.natAbs (Int.gcd X Y)
      have cop : Nat.gcd (X.natAbs / Int.gcd X Y) (Y.natAbs / Int.gcd X Y) = 1 := Nat.coprime_div_gcd_div_gcd (m := X.natAbs) (n := Y.natAbs) g0
      generalize hg : Int.gcd X Y = g at *
      generalize X.natAbs / g = x at *
      generalize Y.natAbs / g = y at *
      have x1 : 1 ≤ x := by
        rcases Nat.eq_zero_or_pos x with z | z
        · rw [z] at dx; omega
        · exact z
      have y1 : 1 ≤ y := by
        rcases Nat.eq_zero_or_pos y with z | z
        · rw [z] at dy; omega
        · exact z
      refine List.mem_filter.mpr ⟨cpL_all x (by omega) y (by omega) x1 y1 cop, decide_eq_true ?_⟩
      show OnW a b c x y
      refine sq_root (w := (g : Int)) (u := c * Z) (by omega) ?_
      have z := h.zero
      have mX : X * X = (x * g) * (x * g) := by
        have : X = x * g := by have : X = (X.natAbs : Int) := by omega
                               rw [this, ← dx, Int.natCast_mul]
        rw [← this]
      have mY : Y * Y = (y * g) * (y * g) := by
        have n1 : (Y.natAbs : Int) = y * g := by rw [← dy, Int.natCast_mul]
        rw [← n1]
        rcases Int.natAbs_eq Y with w | w
        · rw [← w]
        · have : (Y.natAbs : Int) = -Y := by omega
          rw [this]; grind
      have e1 : a * X * X = a * (X * X) := Int.mul_assoc ..
      have e2 : b * Y * Y = b * (Y * Y) := Int.mul_assoc ..
      rw [e1, e2, mX, mY] at z
      have k : c * Z * Z = -(a * ((x * g) * (x * g)) + b * ((y * g) * (y * g))) := by omega
      have : c * Z * (c * Z) = c * (c * Z * Z) := by grind
      rw [this, k]
      grind
end
open Classical in
theorem few_zeros1 {a b c : Int} (a0 : a ≠ 0) (b0 : b ≠ 0) (c0 : c ≠ 0) (few : (cpL.countP fun p => decide (OnW a b c p.1 p.2)) ≤ 14) (ms : List (List Int)) (nd : ms.Nodup) (h : ∀ m ∈ ms, ∃ X Y Z, m = [X, Y, Z] ∧ ZerP a b c X Y Z) : ms.length ≤ 60 := by
  let f : List Int → Code := fun m => match m with | [X, Y, Z] => codeZ X Y Z | _ => ((0, 0), false, false)
  have nd2 : (ms.map f).Nodup := by
    refine List.pairwise_map.mpr (List.Pairwise.imp_of_mem (fun {m n} hm hn ne e => ne ?_) nd)
    obtain ⟨X, Y, Z, rfl, z1⟩ := h m hm
    obtain ⟨X', Y', Z', rfl, z2⟩ := h n hn
    obtain ⟨e1, e2, e3⟩ := codeZ_inj a0 b0 c0 z1 z2 e
    rw [e1, e2, e3]
  have len := nodup_few _ (((cpL.filter fun p => decide (OnW a b c p.1 p.2)).flatMap fun p => [(p, false, false), (p, false, true), (p, true, false), (p, true, true)]) ++ ([((0, 1), false, false), ((0, 1), false, true), ((1, 0), false, false), ((1, 0), false, true)] : List Code)) nd2 fun x hx => by
    obtain ⟨m, hm, rfl⟩ := List.mem_map.mp hx
    obtain ⟨X, Y, Z, rfl, z1⟩ := h m hm
    exact code_in a0 b0 c0 z1
  rw [List.length_map, List.length_append, List.length_flatMap] at len
  have four : ∀ l : List (Nat × Nat), (l.map fun p => ([(p, false, false), (p, false, true), (p, true, false), (p, true, true)] : List Code).length).sum = 4 * l.length := fun l => by
    induction l with
    | nil => rfl
    | cons q l ih => rw [List.map_cons, List.sum_cons, ih]; show 4 + 4 * l.length = 4 * (l.length + 1); omega
  rw [four, ← List.countP_eq_length_filter] at len
  have : ([((0, 1), false, false), ((0, 1), false, true), ((1, 0), false, false), ((1, 0), false, true)] : List Code).length = 4 := rfl
  omega
/-- the bounds of the law's forms -/
def FewB (a b : Int) : Prop := (a.natAbs ≤ 3485 ∧ b.natAbs ≤ 41) ∨ (a.natAbs ≤ 41 ∧ b.natAbs ≤ 3485)
open Classical in
theorem few_zeros {a b c : Int} (a0 : a ≠ 0) (b0 : b ≠ 0) (c0 : c ≠ 0) (bd : FewB a b) (ms : List (List Int)) (nd : ms.Nodup) (h : ∀ m ∈ ms, ∃ X Y Z, m = [X, Y, Z] ∧ ZerP a b c X Y Z) : ms.length ≤ 60 := by
  refine few_zeros1 a0 b0 c0 ?_ ms nd h
  rcases bd with ⟨h1, h2⟩ | ⟨h1, h2⟩
  · exact few_ways a0 b0 c0 h1 h2
  · have := few_ways b0 a0 c0 h2 h1
    rw [← cpL_swap.countP_eq, List.countP_map]
    refine Nat.le_trans (List.countP_mono_left fun q _ hq => ?_) this
    obtain ⟨u, hu⟩ := of_decide_eq_true hq
    exact decide_eq_true ⟨u, by rw [← hu]; show _ = (a * q.2 * q.2 + b * q.1 * q.1) * -c; rw [Int.add_comm]⟩
local macro_rules | `(tactic| walk_at "d1") => `(tactic| try simp only [dSeq, dSkip, dPass, dRet, dRetN, dDrop, dCond, dAsg, gNm, gTp, dOwn, dOwnL, dPar, dAug, dApp, dExt, dFrz, dFor, dLc, dBreak, dCont, dVar, dC, dOp, dT, dIsi, dNeg, dNot, dTNot, dAnd, dOr, dTAnd, dTOr, dIf, dCh, dNil, dCons, dTup, dLst, dIxO, dB, dCall, dCallW, dItems, dRng1, dRng2, dYes, fnE, startE, startW, startS, dLenO, dLenS, dIxS, dSl, dPt, dNo, wipeE, addD_int, addD_str, addD_tup, addD_lst, subD_int, mulD_int, mulD_tup, mulD_lst, fdivD_int, modD_int, powD_int, shlD_int, shrD_int, andD_int, ltD_int, leD_int, gtD_int, geD_int, eqD_ap, neD_ap, isD_ap, isNotD_ap, isNon_none, isNon_int, isNon_bool, isNon_str, isNon_tup, isNon_lst, isInt_none, isInt_int, isInt_bool, isInt_str, isInt_tup, isInt_lst, isBool_none, isBool_int, isBool_bool, isBool_str, isBool_tup, isBool_lst, isStr_none, isStr_int, isStr_bool, isStr_str, isStr_tup, isStr_lst, isTup_none, isTup_int, isTup_bool, isTup_str, isTup_tup, isTup_lst, isLst_lst, Cnd_true, Cnd_false, Cnd_not, Cnd_dec, asB_bool, forall_const, true_implies, false_implies, implies_true, decide_true, decide_false, Classical.not_not, negD_int, notD_bool, onVal_val, onOwn_own, onDic_dic, onScr_scr, onWv_wv, onInt_int, onTup_tup, onLst_lst, onItems_lst, onItems_tup, frz1_own, frz1_val, frz1_un, ixD_lst, ixD_tup, ixL_int, optD_some, optI_some, absD_int, intD_int, intD_bool, lenD_lst, lenD_tup, lenD_str, tupleD_lst, tupleD_tup, listD_lst, listD_tup, min2D_int, max2D_int, sumD_ints, allD_bls, anyD_bls, slD_lst, slD_tup, slD_str, gNl_nil, gCs_cons, par2_two, seq1_lst, seq1_tup, rng1D_int, rng2D_int, gt_z, gt_s, sp_next_int, set_z, set_s, List.map_cons, List.map_nil, List.length_cons, List.length_nil, List.cons_append, List.nil_append, List.replicate, Nat.reduceAdd, Nat.reduceSub, Nat.zero_add, shaped_int, shaped_bool, shaped_none, shaped_listI, shaped_tupI, shaped_nilL, shaped_nilT, eqv_int, eqv_bool, eqv_str, eqv_none, eqv_list_nil, List.isEmpty_nil, List.isEmpty_cons, Bool.true_eq_false, Bool.false_eq_true, decide_eq_true_eq, and_self, true_and, and_true, not_dec, Bool.not_eq_true', decide_eq_false_iff_not, atI_0, atI_1, atI_2, ite_true, ite_false, if_true, if_false, reduceIte, Bool.not_true, Bool.not_false, not_true_eq_false, not_false_eq_true, List.set_cons_zero, List.set_cons_succ, dPar3, dRev, par3_three, sortedD_ints, revD_tup, two_nat, one_nat, three_nat, dCh3, dOwnC, dPutPar, putPar_two, dZip2, zip2D_lst, zip2D_tup, dPut, isBD_bl, isNotBD_bl, dNewO, dPutO, dSortedO, putKD_int, dPar3O, dParO2, par3O_two, parO2_one, minLD_lst, dKeysW, rdPairs_nil, rdPairs_cons, onPair_ii, inTD_lst, gTl, dAugS, dZip3, zip3D_tup, zip3L_cons, zip3L_nil, revD_lst])
local macro_rules | `(tactic| walk_at "dd") => `(tactic| (walk_at "d1"; repeat (with_reducible (refine then_intro ?_); walk_at "d1")))
/-! triples without a common divisor; the curve of a zero -/
def sgnT (x y z : Int) : Int := if 0 < x ∨ (x = 0 ∧ (0 < y ∨ (y = 0 ∧ 0 < z))) then 1 else -1
def gcdT (x y z : Int) : Nat := Nat.gcd (Int.gcd x y) z.natAbs
def loneT (x y z : Int) : Int × Int × Int := (sgnT x y z * (x / gcdT x y z), sgnT x y z * (y / gcdT x y z), sgnT x y z * (z / gcdT x y z))
def loneD (t : Int × Int × Int) : D := .tuple [.int t.1, .int t.2.1, .int t.2.2]
theorem sgnT_pm (x y z : Int) : sgnT x y z = 1 ∨ sgnT x y z = -1 := by unfold sgnT; split; exact .inl rfl; exact .inr rfl
theorem gcdT_dvd (x y z : Int) : (gcdT x y z : Int) ∣ x ∧ (gcdT x y z : Int) ∣ y ∧ (gcdT x y z : Int) ∣ z := by
  have h1 : gcdT x y z ∣ Int.gcd x y := Nat.gcd_dvd_left _ _
  have h2 : gcdT x y z ∣ z.natAbs := Nat.gcd_dvd_right _ _
  have e1 : (gcdT x y z : Int) ∣ (Int.gcd x y : Int) := Int.natCast_dvd_natCast.mpr h1
  exact ⟨Int.dvd_trans e1 (Int.gcd_dvd_left ..), Int.dvd_trans e1 (Int.gcd_dvd_right ..), Int.ofNat_dvd_left.mpr h2⟩
theorem gcdT_zero {x y z : Int} : gcdT x y z = 0 ↔ x = 0 ∧ y = 0 ∧ z = 0 := by
  unfold gcdT
  rw [Nat.gcd_eq_zero_iff, Int.gcd_eq_zero_iff, Int.natAbs_eq_zero, and_assoc]
/-- a triple is a multiple of its lone one -/
theorem lone_mul (x y z : Int) : ∃ k : Int, x = k * (loneT x y z).1 ∧ y = k * (loneT x y z).2.1 ∧ z = k * (loneT x y z).2.2 := by
  obtain ⟨h1, h2, h3⟩ := gcdT_dvd x y z
  have e : ∀ u : Int, (gcdT x y z : Int) ∣ u → u = sgnT x y z * gcdT x y z * (sgnT x y z * (u / gcdT x y z)) := fun u hu => by
    have q := Int.mul_ediv_cancel' hu
    rcases sgnT_pm x y z with w | w <;> rw [w]
    · rw [Int.one_mul, Int.one_mul, q]
    · rw [show (-1 : Int) * gcdT x y z * (-1 * (u / gcdT x y z)) = gcdT x y z * (u / gcdT x y z) by grind, q]
  exact ⟨sgnT x y z * gcdT x y z, e x h1, e y h2, e z h3⟩
theorem lone_cross {x y z u v w : Int} (h : loneT x y z = loneT u v w) : x * v = y * u ∧ x * w = z * u ∧ y * w = z * v := by
  obtain ⟨k, h1, h2, h3⟩ := lone_mul x y z
  obtain ⟨j, g1, g2, g3⟩ := lone_mul u v w
  rw [h] at h1 h2 h3
  generalize (loneT u v w).1 = p at *
  generalize (loneT u v w).2.1 = q at *
  generalize (loneT u v w).2.2 = r at *
  rw [h1, h2, h3, g1, g2, g3]
  refine ⟨?_, ?_, ?_⟩ <;> grind
theorem pos_mul_iff {k x : Int} (hk : 0 < k) : (0 < k * x ↔ 0 < x) ∧ (k * x = 0 ↔ x = 0) := by
  constructor
  · constructor
    · intro h
      rcases Int.lt_trichotomy 0 x with z | z | z
      · exact z
      · subst z; simp at h
      · have := Int.mul_neg_of_pos_of_neg hk z; omega
    · exact Int.mul_pos hk
  · constructor
    · intro h
      exact (Int.mul_eq_zero.mp h).resolve_left (by omega)
    · intro h; rw [h, Int.mul_zero]
theorem neg_mul_iff {k x : Int} (hk : k < 0) : (0 < k * x ↔ x < 0) ∧ (k * x = 0 ↔ x = 0) := by
  have h := pos_mul_iff (k := -k) (x := -x) (by omega)
  rw [Int.neg_mul_neg] at h
  omega
theorem lone_k {k : Int} (hk : k ≠ 0) (x y z : Int) : loneT (k * x) (k * y) (k * z) = loneT x y z := by
  have g : gcdT (k * x) (k * y) (k * z) = k.natAbs * gcdT x y z := by
    unfold gcdT
    rw [Int.gcd_mul_left, Int.natAbs_mul, Nat.gcd_mul_left]
  obtain ⟨h1, h2, h3⟩ := gcdT_dvd x y z
  by_cases z0 : gcdT x y z = 0
  · obtain ⟨rfl, rfl, rfl⟩ := gcdT_zero.mp z0
    rw [Int.mul_zero]
  have gp : (gcdT x y z : Int) ≠ 0 := by omega
  have nz : ¬ (x = 0 ∧ y = 0 ∧ z = 0) := fun w => z0 (gcdT_zero.mpr w)
  unfold loneT
  rw [g]
  generalize gcdT x y z = d at *
  rcases Int.lt_or_gt_of_ne hk with w | w
  · have s : sgnT (k * x) (k * y) (k * z) = -sgnT x y z := by
      have i1 := neg_mul_iff (x := x) w
      have i2 := neg_mul_iff (x := y) w
      have i3 := neg_mul_iff (x := z) w
      unfold sgnT
      split <;> split <;> omega
    have e : ∀ u : Int, (d : Int) ∣ u → k * u / ((k.natAbs * d : Nat) : Int) = -(u / d) := fun u ⟨q, hq⟩ => by
      subst hq
      rw [Int.mul_ediv_cancel_left _ gp, show k * (d * q) = ((k.natAbs * d : Nat) : Int) * -q by
        rw [Int.natCast_mul, show (k.natAbs : Int) = -k by omega]; grind]
      exact Int.mul_ediv_cancel_left _ (by
        have := Nat.mul_pos (show 0 < k.natAbs by omega) (show 0 < d by omega)
        omega)
    rw [s, e x h1, e y h2, e z h3, Int.neg_mul_neg, Int.neg_mul_neg, Int.neg_mul_neg]
  · have s : sgnT (k * x) (k * y) (k * z) = sgnT x y z := by
      have i1 := pos_mul_iff (x := x) w
      have i2 := pos_mul_iff (x := y) w
      have i3 := pos_mul_iff (x := z) w
      unfold sgnT
      split <;> split <;> omega
    have e : ∀ u : Int, (d : Int) ∣ u → k * u / ((k.natAbs * d : Nat) : Int) = u / d := fun u ⟨q, hq⟩ => by
      subst hq
      rw [Int.mul_ediv_cancel_left _ gp, show k * (d * q) = ((k.natAbs * d : Nat) : Int) * q by
        rw [Int.natCast_mul, show (k.natAbs : Int) = k by omega]; grind]
      exact Int.mul_ediv_cancel_left _ (by
        have := Nat.mul_pos (show 0 < k.natAbs by omega) (show 0 < d by omega)
        omega)
    rw [s, e x h1, e y h2, e z h3]
theorem gcdT_mul (d : Nat) (x y z : Int) : gcdT (d * x) (d * y) (d * z) = d * gcdT x y z := by
  unfold gcdT
  rw [Int.gcd_mul_left, Int.natAbs_mul, Int.natAbs_natCast, Nat.gcd_mul_left]
/-- the lone one of a small zero -/
theorem lone_zerP {a b c x y z : Int} (h : a * x * x + b * y * y + c * z * z = 0) (nz : ¬ (x = 0 ∧ y = 0 ∧ z = 0)) (bx : x.natAbs ≤ 8) (by' : y.natAbs ≤ 8) : ZerP a b c (loneT x y z).1 (loneT x y z).2.1 (loneT x y z).2.2 ∧ (loneT x y z).2.2.natAbs ≤ z.natAbs := by
  have g0 : gcdT x y z ≠ 0 := fun w => nz (gcdT_zero.mp w)
  obtain ⟨h1, h2, h3⟩ := gcdT_dvd x y z
  have small : ∀ u : Int, (u / (gcdT x y z : Int)).natAbs ≤ u.natAbs := fun u => Int.natAbs_ediv_le_natAbs u _
  have abs : ∀ u : Int, (sgnT x y z * u).natAbs = u.natAbs := fun u => by rcases sgnT_pm x y z with w | w <;> rw [w] <;> omega
  have q1 := Int.mul_ediv_cancel' h1
  have q2 := Int.mul_ediv_cancel' h2
  have q3 := Int.mul_ediv_cancel' h3
  have s1 := small x
  have s2 := small y
  have s3 := small z
  have gi : 0 < (gcdT x y z : Int) := by omega
  have fx := pos_mul_iff (x := x / gcdT x y z) gi
  have fy := pos_mul_iff (x := y / gcdT x y z) gi
  have fz := pos_mul_iff (x := z / gcdT x y z) gi
  rw [q1] at fx
  rw [q2] at fy
  rw [q3] at fz
  have prim : gcdT (x / gcdT x y z) (y / gcdT x y z) (z / gcdT x y z) = 1 := by
    have e := gcdT_mul (gcdT x y z) (x / gcdT x y z) (y / gcdT x y z) (z / gcdT x y z)
    rw [q1, q2, q3] at e
    exact Nat.eq_of_mul_eq_mul_left (Nat.pos_of_ne_zero g0) (by omega)
  have sd : sgnT x y z = if 0 < x ∨ (x = 0 ∧ (0 < y ∨ (y = 0 ∧ 0 < z))) then 1 else -1 := rfl
  unfold loneT
  simp only
  generalize gcdT x y z = d at *
  generalize hX : x / (d : Int) = X at *
  generalize hY : y / (d : Int) = Y at *
  generalize hZ : z / (d : Int) = Z at *
  have gz : a * X * X + b * Y * Y + c * Z * Z = 0 := by
    have e : (d : Int) * d * (a * X * X + b * Y * Y + c * Z * Z) = 0 := by
      rw [← h, ← q1, ← q2, ← q3]; grind
    rcases Int.mul_eq_zero.mp e with w | w
    · rcases Int.mul_eq_zero.mp w with w | w <;> omega
    · exact w
  refine ⟨⟨?_, ?_, ?_, ?_, ?_⟩, ?_⟩
  · rcases sgnT_pm x y z with w | w <;> rw [w] <;> rw [← gz] <;> grind
  · have n : ∀ u v w : Int, gcdT (-u) (-v) (-w) = gcdT u v w := fun u v w => by
      unfold gcdT
      rw [Int.gcd_neg, Int.neg_gcd, Int.natAbs_neg]
    rcases sgnT_pm x y z with w | w <;> rw [w]
    · rw [Int.one_mul, Int.one_mul, Int.one_mul]; exact prim
    · rw [Int.neg_one_mul, Int.neg_one_mul, Int.neg_one_mul]
      exact (n X Y Z).trans prim
  · rw [sd]
    split <;> omega
  · have := abs X; omega
  · have := abs Y; omega
  · have := abs Z; omega
local macro_rules | `(tactic| walk_at "d1") => `(tactic| try simp only [dSeq, dSkip, dPass, dRet, dRetN, dDrop, dCond, dAsg, gNm, gTp, dOwn, dOwnL, dPar, dAug, dApp, dExt, dFrz, dFor, dLc, dBreak, dCont, dVar, dC, dOp, dT, dIsi, dNeg, dNot, dTNot, dAnd, dOr, dTAnd, dTOr, dIf, dCh, dNil, dCons, dTup, dLst, dIxO, dB, dCall, dCallW, dItems, dRng1, dRng2, dYes, fnE, startE, startW, startS, dLenO, dLenS, dIxS, dSl, dPt, dNo, wipeE, addD_int, addD_str, addD_tup, addD_lst, subD_int, mulD_int, mulD_tup, mulD_lst, fdivD_int, modD_int, powD_int, shlD_int, shrD_int, andD_int, ltD_int, leD_int, gtD_int, geD_int, eqD_ap, neD_ap, isD_ap, isNotD_ap, isNon_none, isNon_int, isNon_bool, isNon_str, isNon_tup, isNon_lst, isInt_none, isInt_int, isInt_bool, isInt_str, isInt_tup, isInt_lst, isBool_none, isBool_int, isBool_bool, isBool_str, isBool_tup, isBool_lst, isStr_none, isStr_int, isStr_bool, isStr_str, isStr_tup, isStr_lst, isTup_none, isTup_int, isTup_bool, isTup_str, isTup_tup, isTup_lst, isLst_lst, Cnd_true, Cnd_false, Cnd_not, Cnd_dec, asB_bool, forall_const, true_implies, false_implies, implies_true, decide_true, decide_false, Classical.not_not, negD_int, notD_bool, onVal_val, onOwn_own, onDic_dic, onScr_scr, onWv_wv, onInt_int, onTup_tup, onLst_lst, onItems_lst, onItems_tup, frz1_own, frz1_val, frz1_un, ixD_lst, ixD_tup, ixL_int, optD_some, optI_some, absD_int, intD_int, intD_bool, lenD_lst, lenD_tup, lenD_str, tupleD_lst, tupleD_tup, listD_lst, listD_tup, min2D_int, max2D_int, sumD_ints, allD_bls, anyD_bls, slD_lst, slD_tup, slD_str, gNl_nil, gCs_cons, par2_two, seq1_lst, seq1_tup, rng1D_int, rng2D_int, gt_z, gt_s, sp_next_int, set_z, set_s, List.map_cons, List.map_nil, List.length_cons, List.length_nil, List.cons_append, List.nil_append, List.replicate, Nat.reduceAdd, Nat.reduceSub, Nat.zero_add, shaped_int, shaped_bool, shaped_none, shaped_listI, shaped_tupI, shaped_nilL, shaped_nilT, eqv_int, eqv_bool, eqv_str, eqv_none, eqv_list_nil, List.isEmpty_nil, List.isEmpty_cons, Bool.true_eq_false, Bool.false_eq_true, decide_eq_true_eq, and_self, true_and, and_true, not_dec, Bool.not_eq_true', decide_eq_false_iff_not, atI_0, atI_1, atI_2, ite_true, ite_false, if_true, if_false, reduceIte, Bool.not_true, Bool.not_false, not_true_eq_false, not_false_eq_true, List.set_cons_zero, List.set_cons_succ, dPar3, dRev, par3_three, sortedD_ints, revD_tup, two_nat, one_nat, three_nat, dCh3, dOwnC, dPutPar, putPar_two, dZip2, zip2D_lst, zip2D_tup, dPut, isBD_bl, isNotBD_bl, dNewO, dPutO, dSortedO, putKD_int, dPar3O, dParO2, par3O_two, parO2_one, minLD_lst, dKeysW, rdPairs_nil, rdPairs_cons, onPair_ii, inTD_lst, gTl, dAugS, dZip3, zip3D_tup, zip3L_cons, zip3L_nil, revD_lst, spx_law_common_v2])
local macro_rules | `(tactic| walk_at "dd") => `(tactic| (walk_at "d1"; repeat (with_reducible (refine then_intro ?_); walk_at "d1")))
def rd_law_lone : DTS :=
  (dSeq (dAsg (dCall sp_law_common_v2 (dCons (dCall sp_law_common_v2 (dCons (dOp ixD (dVar 0) (dC (.int 0))) (dCons (dOp ixD (dVar 0) (dC (.int 1))) dNil))) (dCons (dOp ixD (dVar 0) (dC (.int 2))) dNil))) (gNm 1)) (dSeq (dCond (dT (dOp eqD (dVar 1) (dC (.int 0)))) (dRet (dTup (dCons (dC (.int 0)) (dCons (dC (.int 0)) (dCons (dC (.int 0)) dNil))))) dSkip) (dSeq (dAsg (dOp ixD (dLc true (dItems (dVar 0)) (gNm 3) (dT (dOp neD (dVar 3) (dC (.int 0)))) (dVar 3) [3]) (dC (.int 0))) (gNm 2)) (dRet (dB tupleD (dCons (dLc true (dItems (dVar 0)) (gNm 3) dYes (dIf (dT (dOp gtD (dVar 2) (dC (.int 0)))) (dOp fdivD (dVar 3) (dVar 1)) (dOp subD (dC (.int 0)) (dOp fdivD (dVar 3) (dVar 1)))) [3]) dNil))))))
def sp_law_lone : Lay.Spec := fun ds R => match ds with
  | [.tuple [.int x, .int y, .int z]] => (x.natAbs < 2 ^ 200 ∧ y.natAbs < 2 ^ 200 ∧ z.natAbs < 2 ^ 200) ∧ R (loneD (loneT x y z))
  | [.list [.int x, .int y, .int z]] => (x.natAbs < 2 ^ 200 ∧ y.natAbs < 2 ^ 200 ∧ z.natAbs < 2 ^ 200) ∧ R (loneD (loneT x y z))
  | _ => False
theorem spx_law_lone_t {x y z : Int} {R : D → Prop} : sp_law_lone [.tuple [.int x, .int y, .int z]] R = ((x.natAbs < 2 ^ 200 ∧ y.natAbs < 2 ^ 200 ∧ z.natAbs < 2 ^ 200) ∧ R (loneD (loneT x y z))) := rfl
theorem spx_law_lone_l {x y z : Int} {R : D → Prop} : sp_law_lone [.list [.int x, .int y, .int z]] R = ((x.natAbs < 2 ^ 200 ∧ y.natAbs < 2 ^ 200 ∧ z.natAbs < 2 ^ 200) ∧ R (loneD (loneT x y z))) := rfl
/-- the first that is not 0 -/
def fstT (x y z : Int) : Int := if x ≠ 0 then x else if y ≠ 0 then y else z
theorem able_map (ns : List Int) (g : Int → Int) : (ns.filterMap fun n => some (g n)) = ns.map g := congrFun (List.filterMap_eq_map' (f := g)) ns
theorem sgn_fst {x y z : Int} (nz : ¬ (x = 0 ∧ y = 0 ∧ z = 0)) : ∃ f r, [x, y, z].filter (fun n => decide (n ≠ 0)) = f :: r ∧ sgnT x y z = if 0 < f then 1 else -1 := by
  unfold sgnT
  by_cases hx : x = 0
  · by_cases hy : y = 0
    · have hz : z ≠ 0 := fun w => nz ⟨hx, hy, w⟩
      refine ⟨z, [], by simp [hx, hy, hz], ?_⟩
      split <;> split <;> omega
    · refine ⟨y, _, by rw [List.filter_cons_of_neg (by simp [hx]), List.filter_cons_of_pos (by simp [hy])], ?_⟩
      split <;> split <;> omega
  · refine ⟨x, _, by rw [List.filter_cons_of_pos (by simp [hx])], ?_⟩
    split <;> split <;> omega
theorem ok_law_lone : ∀ ds R, sp_law_lone ds R → rd_law_lone (fnE R) (startE 4 ds) := by
  have main : ∀ (x y z : Int) (R : D → Prop) (d : D), (d = .tuple [.int x, .int y, .int z] ∨ d = .list [.int x, .int y, .int z]) → (x.natAbs < 2 ^ 200 ∧ y.natAbs < 2 ^ 200 ∧ z.natAbs < 2 ^ 200) → R (loneD (loneT x y z)) → rd_law_lone (fnE R) (startE 4 [d]) := by
    intro x y z R d hd ⟨bx, by', bz⟩ h
    have p1 : 2 ^ 200 ≤ 2 ^ 480 := Nat.pow_le_pow_right (by decide) (by decide)
    have gb : Int.gcd x y ≤ max x.natAbs y.natAbs := by
      by_cases w : x = 0
      · subst w; rw [Int.gcd_zero_left]; omega
      · have := Nat.le_of_dvd (by omega) (Nat.gcd_dvd_left x.natAbs y.natAbs)
        have : Int.gcd x y ≤ x.natAbs := this
        omega
    have gt : gcdT x y z ≤ max (Int.gcd x y) z.natAbs := by
      unfold gcdT
      rcases Nat.eq_zero_or_pos (Int.gcd x y) with w | w
      · rw [w, Nat.gcd_zero_left]; omega
      · have := Nat.le_of_dvd w (Nat.gcd_dvd_left (Int.gcd x y) z.natAbs)
        omega
    rcases hd with rfl | rfl
    all_goals
      unfold rd_law_lone
      walk_at "dd"
      refine ⟨⟨by omega, by omega⟩, ⟨by omega, by omega⟩, ?_⟩
      have eg : Int.gcd ((Int.gcd x y : Nat) : Int) z = gcdT x y z := rfl
      rw [eg]
      refine then_intro ?_
      walk_at "dd"
      refine ⟨fun z0 => ?_, fun z0 => ?_⟩
      · obtain ⟨rfl, rfl, rfl⟩ := gcdT_zero.mp (show gcdT x y z = 0 by omega)
        exact h
      · have nz : ¬ (x = 0 ∧ y = 0 ∧ z = 0) := fun w => z0 (by rw [gcdT_zero.mpr w]; rfl)
        obtain ⟨f, r, ef, es⟩ := sgn_fst nz
        refine then_intro ?_
        walk_at "dd"
        refine lc_ints (ns := [x, y, z]) (fun n => decide (n ≠ 0)) (fun w => nomatch w) (fun n hn P hP => ?_) ?_
        · walk_at "dd"
          refine ⟨fun w => ?_, fun w => ?_⟩
          · rw [decide_eq_false (fun q => q w)] at hP
            exact hP
          · rw [decide_eq_true w] at hP
            exact hP
        · rw [ef, List.map_cons]
          walk_at "dd"
          refine lc_map (xs := [x, y, z]) (f := PyData.int) (k := PyData.int) (p := fun n => some (sgnT x y z * (n / (gcdT x y z : Int)))) (fun w => nomatch w) (fun n hn P hP => ?_) ?_
          · have bn : n.natAbs < 2 ^ 200 := by
              simp only [List.mem_cons, List.not_mem_nil, or_false] at hn
              rcases hn with rfl | rfl | rfl <;> assumption
            have gd : CDivB n (gcdT x y z : Int) := divOk (by omega) (n := 200) (by omega) (by decide)
            walk_at "dd"
            rw [fdiv_pos _ (by omega)]
            rw [es] at hP
            refine ⟨fun w => ?_, fun w => ?_⟩
            · rw [if_pos w, Int.one_mul] at hP
              exact ⟨gd, hP⟩
            · rw [if_neg w] at hP
              refine ⟨gd, ?_⟩
              rw [show (0 : Int) - n / (gcdT x y z : Int) = -1 * (n / (gcdT x y z : Int)) by omega]
              exact hP
          · exact h
  intro ds R h
  unfold sp_law_lone at h
  split at h
  · exact main _ _ _ R _ (.inl rfl) h.1 h.2
  · exact main _ _ _ R _ (.inr rfl) h.1 h.2
  · exact h.elim
local macro_rules | `(tactic| walk_at "d1") => `(tactic| try simp only [dSeq, dSkip, dPass, dRet, dRetN, dDrop, dCond, dAsg, gNm, gTp, dOwn, dOwnL, dPar, dAug, dApp, dExt, dFrz, dFor, dLc, dBreak, dCont, dVar, dC, dOp, dT, dIsi, dNeg, dNot, dTNot, dAnd, dOr, dTAnd, dTOr, dIf, dCh, dNil, dCons, dTup, dLst, dIxO, dB, dCall, dCallW, dItems, dRng1, dRng2, dYes, fnE, startE, startW, startS, dLenO, dLenS, dIxS, dSl, dPt, dNo, wipeE, addD_int, addD_str, addD_tup, addD_lst, subD_int, mulD_int, mulD_tup, mulD_lst, fdivD_int, modD_int, powD_int, shlD_int, shrD_int, andD_int, ltD_int, leD_int, gtD_int, geD_int, eqD_ap, neD_ap, isD_ap, isNotD_ap, isNon_none, isNon_int, isNon_bool, isNon_str, isNon_tup, isNon_lst, isInt_none, isInt_int, isInt_bool, isInt_str, isInt_tup, isInt_lst, isBool_none, isBool_int, isBool_bool, isBool_str, isBool_tup, isBool_lst, isStr_none, isStr_int, isStr_bool, isStr_str, isStr_tup, isStr_lst, isTup_none, isTup_int, isTup_bool, isTup_str, isTup_tup, isTup_lst, isLst_lst, Cnd_true, Cnd_false, Cnd_not, Cnd_dec, asB_bool, forall_const, true_implies, false_implies, implies_true, decide_true, decide_false, Classical.not_not, negD_int, notD_bool, onVal_val, onOwn_own, onDic_dic, onScr_scr, onWv_wv, onInt_int, onTup_tup, onLst_lst, onItems_lst, onItems_tup, frz1_own, frz1_val, frz1_un, ixD_lst, ixD_tup, ixL_int, optD_some, optI_some, absD_int, intD_int, intD_bool, lenD_lst, lenD_tup, lenD_str, tupleD_lst, tupleD_tup, listD_lst, listD_tup, min2D_int, max2D_int, sumD_ints, allD_bls, anyD_bls, slD_lst, slD_tup, slD_str, gNl_nil, gCs_cons, par2_two, seq1_lst, seq1_tup, rng1D_int, rng2D_int, gt_z, gt_s, sp_next_int, set_z, set_s, List.map_cons, List.map_nil, List.length_cons, List.length_nil, List.cons_append, List.nil_append, List.replicate, Nat.reduceAdd, Nat.reduceSub, Nat.zero_add, shaped_int, shaped_bool, shaped_none, shaped_listI, shaped_tupI, shaped_nilL, shaped_nilT, eqv_int, eqv_bool, eqv_str, eqv_none, eqv_list_nil, List.isEmpty_nil, List.isEmpty_cons, Bool.true_eq_false, Bool.false_eq_true, decide_eq_true_eq, and_self, true_and, and_true, not_dec, Bool.not_eq_true', decide_eq_false_iff_not, atI_0, atI_1, atI_2, ite_true, ite_false, if_true, if_false, reduceIte, Bool.not_true, Bool.not_false, not_true_eq_false, not_false_eq_true, List.set_cons_zero, List.set_cons_succ, dPar3, dRev, par3_three, sortedD_ints, revD_tup, two_nat, one_nat, three_nat, dCh3, dOwnC, dPutPar, putPar_two, dZip2, zip2D_lst, zip2D_tup, dPut, isBD_bl, isNotBD_bl, dNewO, dPutO, dSortedO, putKD_int, dPar3O, dParO2, par3O_two, parO2_one, minLD_lst, dKeysW, rdPairs_nil, rdPairs_cons, onPair_ii, inTD_lst, gTl, dAugS, dZip3, zip3D_tup, zip3L_cons, zip3L_nil, revD_lst])
local macro_rules | `(tactic| walk_at "dd") => `(tactic| (walk_at "d1"; repeat (with_reducible (refine then_intro ?_); walk_at "d1")))
abbrev Form := Int × Int × Int
def formD (f : Form) : PyData := .tuple [.int f.1, .int f.2.1, .int f.2.2]
def disc (f : Form) : Int := f.2.1 * f.2.1 - 4 * f.1 * f.2.2
def Red (f : Form) : Prop := -f.1 < f.2.1 ∧ f.2.1 ≤ f.1 ∧ f.1 ≤ f.2.2 ∧ ¬ (f.1 = f.2.2 ∧ f.2.1 < 0)
instance (f : Form) : Decidable (Red f) := inferInstanceAs (Decidable (_ ∧ _ ∧ _ ∧ ¬ (_ ∧ _)))
def shiftF (t : Int) (f : Form) : Form := (f.1, f.2.1 + 2 * t * f.1, f.2.2 + t * f.2.1 + t * t * f.1)
def swapF (f : Form) : Form := (f.2.2, -f.2.1, f.1)
/-- come to by shifts and swaps -/
inductive FEq : Form → Form → Prop
  | refl (f : Form) : FEq f f
  | shift {f g : Form} (t : Int) : FEq f g → FEq f (shiftF t g)
  | swap {f g : Form} : FEq f g → FEq f (swapF g)
theorem disc_shift (t : Int) (f : Form) : disc (shiftF t f) = disc f := by
  unfold disc shiftF
  grind
theorem disc_swap (f : Form) : disc (swapF f) = disc f := by
  unfold disc swapF
  grind
theorem FEq.disc {f g : Form} (h : FEq f g) : disc g = disc f := by
  induction h with
  | refl => rfl
  | shift t _ ih => rw [disc_shift, ih]
  | swap _ ih => rw [disc_swap, ih]
/-- a > 0 and b b - 4 a c < 0: then c > 0 -/
theorem pos_c {f : Form} (ha : 0 < f.1) (hd : disc f < 0) : 0 < f.2.2 := by
  unfold disc at hd
  rcases (show 0 < f.2.2 ∨ f.2.2 ≤ 0 by omega) with h | h
  · exact h
  · have h1 := Int.mul_le_mul_of_nonneg_left h (show 0 ≤ 4 * f.1 by omega)
    have h2 : 0 ≤ f.2.1 * f.2.1 := by
      rcases Int.le_total 0 f.2.1 with z | z
      · exact Int.mul_nonneg z z
      · exact Int.mul_nonneg_of_nonpos_of_nonpos z z
    omega
theorem eqvAll_ints : ∀ xs ys : List Int, PyData.eqvAll (xs.map .int) (ys.map .int) = decide (xs = ys)
  | [], [] => rfl
  | [], _ :: _ => rfl
  | _ :: _, [] => rfl
  | x :: xs, y :: ys => by
    rw [List.map_cons, List.map_cons, PyData.eqvAll, eqv_int, eqvAll_ints xs ys, ← Bool.decide_and]
    exact decide_eq_decide.mpr ⟨fun ⟨a, b⟩ => by rw [a, b], fun e => List.cons.inj e⟩
theorem eqv_tupI (xs ys : List Int) : PyData.eqv (.tuple (xs.map .int)) (.tuple (ys.map .int)) = decide (xs = ys) := by
  rw [PyData.eqv]
  exact eqvAll_ints xs ys
theorem eqv_form (f g : Form) : PyData.eqv (formD f) (formD g) = decide (f = g) := by
  have := eqv_tupI [f.1, f.2.1, f.2.2] [g.1, g.2.1, g.2.2]
  refine Eq.trans this (decide_eq_decide.mpr ⟨fun e => ?_, fun e => by rw [e]⟩)
  simp only [List.cons.injEq, and_true] at e
  exact Prod.ext e.1 (Prod.ext e.2.1 e.2.2)
/-- the forms of d with a given first number, in order of the middle one -/
def cOf (d : Int) (a : Nat) (b : Int) : Int := (b * b - d) / (4 * (a : Int))
def okF (d : Int) (a : Nat) (b : Int) : Bool := decide ((b * b - d) % (4 * (a : Int)) = 0) && decide (Red ((a : Int), b, cOf d a b)) && decide (Nat.gcd (Int.gcd a b) (cOf d a b).natAbs = 1)
def bsOf (a : Nat) : List Int := (List.range (2 * a)).map fun (i : Nat) => -(a : Int) + 1 + (i : Int)
def rowF (d : Int) (a : Nat) (bs : List Int) : List Form := (bs.filter (okF d a)).map fun b => ((a : Int), b, cOf d a b)
def allF (d : Int) (a : Nat) : List Form :=
  if 3 * (a : Int) * a ≤ -d then rowF d a (bsOf a) ++ allF d (a + 1) else []
termination_by (-d).toNat + 1 - a
decreasing_by
  rename_i h
  have h1 : (a : Int) ≤ 3 * (a : Int) * a := by
    rcases Nat.eq_zero_or_pos a with z | z
    · subst z; decide
    · have : 3 * (a : Int) * 1 ≤ 3 * (a : Int) * a := Int.mul_le_mul_of_nonneg_left (by omega) (by omega)
      omega
  omega
theorem allF_more {d : Int} {a : Nat} (h : 3 * (a : Int) * a ≤ -d) : allF d a = rowF d a (bsOf a) ++ allF d (a + 1) := by rw [allF, if_pos h]
theorem allF_stop {d : Int} {a : Nat} (h : ¬ 3 * (a : Int) * a ≤ -d) : allF d a = [] := by rw [allF, if_neg h]
theorem rowF_snoc {d : Int} {a : Nat} {bs : List Int} {b : Int} : rowF d a (bs ++ [b]) = rowF d a bs ++ if okF d a b then [((a : Int), b, cOf d a b)] else [] := by
  unfold rowF
  rw [List.filter_append, List.map_append]
  congr 1
  by_cases h : okF d a b = true
  · rw [if_pos h, List.filter_cons_of_pos h]; rfl
  · rw [if_neg h, List.filter_cons_of_neg h]; rfl
theorem rowF_len (d : Int) (a : Nat) (bs : List Int) : (rowF d a bs).length ≤ bs.length := by
  unfold rowF
  rw [List.length_map]
  exact List.length_filter_le _ _
theorem bsOf_len (a : Nat) : (bsOf a).length = 2 * a := by unfold bsOf; simp
theorem bsOf_take {a t : Nat} (h : t < 2 * a) : (bsOf a).take (t + 1) = (bsOf a).take t ++ [-(a : Int) + 1 + (t : Int)] := by
  refine take_snoc ?_
  unfold bsOf
  rw [List.getElem?_map, List.getElem?_range h]
  rfl
theorem sq_lt {d : Int} {a : Nat} (h : 3 * (a : Int) * a ≤ -d) : a ≤ (-d).toNat := by
  rcases Nat.eq_zero_or_pos a with z | z
  · omega
  · have : 3 * (a : Int) * 1 ≤ 3 * (a : Int) * a := Int.mul_le_mul_of_nonneg_left (by omega) (by omega)
    omega
theorem allF_len (d : Int) (M : Nat) (hM : (-d).toNat ≤ M) : ∀ (n a : Nat), (-d).toNat + 1 - a = n → (allF d a).length ≤ n * (2 * M) := by
  intro n
  induction n with
  | zero =>
    intro a h
    rw [allF_stop (fun z => by have := sq_lt z; omega)]
    exact Nat.zero_le _
  | succ n ih =>
    intro a h
    by_cases z : 3 * (a : Int) * a ≤ -d
    · rw [allF_more z, List.length_append]
      have h1 := rowF_len d a (bsOf a)
      rw [bsOf_len] at h1
      have h2 := ih (a + 1) (by omega)
      have h3 := sq_lt z
      rw [Nat.succ_mul]
      omega
    · rw [allF_stop z]
      exact Nat.zero_le _
def formI (f : Form) : List Int := [f.1, f.2.1, f.2.2]
theorem formD_tup (f : Form) : formD f = tupD (formI f) := rfl
theorem lexI_anti : ∀ {x y : List Int}, x.length = y.length → lexI x y = false → lexI y x = false → x = y
  | [], [], _, _, _ => rfl
  | [], _ :: _, h, _, _ => by simp at h
  | _ :: _, [], h, _, _ => by simp at h
  | a :: x, b :: y, h, h1, h2 => by
    simp only [lexI] at h1 h2
    by_cases e : a = b
    · subst e
      rw [if_pos rfl] at h1 h2
      rw [lexI_anti (by simpa using h) h1 h2]
    · rw [if_neg e, decide_eq_false_iff_not] at h1
      rw [if_neg (fun z => e z.symm), decide_eq_false_iff_not] at h2
      omega
theorem lex_unique {d : Nat} : ∀ {l1 l2 : List (List Int)}, l1.Perm l2 → (∀ x ∈ l1, x.length = d) → l1.Pairwise (fun x y => lexI y x = false) → l2.Pairwise (fun x y => lexI y x = false) → l1 = l2
  | [], l2, h, _, _, _ => by rw [List.nil_perm.mp h]
  | a :: l1, [], h, _, _, _ => by have := h.length_eq; simp at this
  | a :: l1, b :: l2, h, hl, h1, h2 => by
    rw [List.pairwise_cons] at h1 h2
    have m1 : b ∈ a :: l1 := h.mem_iff.mpr List.mem_cons_self
    have m2 : a ∈ b :: l2 := h.mem_iff.mp List.mem_cons_self
    have e : a = b := by
      have lb := hl b m1
      have la := hl a List.mem_cons_self
      rcases List.mem_cons.mp m1 with e | m1
      · exact e.symm
      · rcases List.mem_cons.mp m2 with e | m2
        · exact e
        · exact lexI_anti (by omega) (h2.1 a m2) (h1.1 b m1)
    subst e
    rw [lex_unique (List.perm_cons a |>.mp h) (fun x hx => hl x (List.mem_cons_of_mem _ hx)) h1.2 h2.2]
def unitF (d : Int) : Form := if d % 4 = 0 then (1, 0, -d / 4) else (1, 1, (1 - d) / 4)
theorem allF_first {d : Int} (hd : d < 0) (h4 : d % 4 = 0 ∨ d % 4 = 1) : (allF d 1).filter (fun f => decide (f.1 = 1)) = [unitF d] := by
  have big : ∀ (n a : Nat), (-d).toNat + 1 - a = n → 2 ≤ a → (allF d a).filter (fun f => decide (f.1 = 1)) = [] := by
    intro n
    induction n with
    | zero =>
      intro a h _
      rw [allF_stop (fun z => by have := sq_lt z; omega)]
      rfl
    | succ n ih =>
      intro a h ha
      by_cases z : 3 * (a : Int) * a ≤ -d
      · rw [allF_more z, List.filter_append, ih (a + 1) (by omega) (by omega), List.append_nil, List.filter_eq_nil_iff]
        intro f hf
        unfold rowF at hf
        obtain ⟨b, _, rfl⟩ := List.mem_map.mp hf
        rw [decide_eq_true_eq]
        show ¬ (a : Int) = 1
        omega
      · rw [allF_stop z]
        rfl
  have h3 : 3 * ((1 : Nat) : Int) * ((1 : Nat) : Int) ≤ -d := by
    show 3 * 1 * 1 ≤ -d
    omega
  rw [allF_more h3, List.filter_append, big _ 2 rfl (Nat.le_refl _), List.append_nil]
  have eb : bsOf 1 = [0, 1] := rfl
  rw [eb]
  unfold rowF unitF
  have c0 : cOf d 1 0 = -d / 4 := by
    show (0 - d) / 4 = _
    rw [Int.zero_sub]
  have c1 : cOf d 1 1 = (1 - d) / 4 := rfl
  rcases h4 with h4 | h4
  · have k0 : okF d 1 0 = true := by
      unfold okF
      rw [Bool.and_eq_true, Bool.and_eq_true, decide_eq_true_eq, decide_eq_true_eq, decide_eq_true_eq, c0]
      refine ⟨⟨by show (0 - d) % 4 = 0; omega, ?_, ?_, ?_, ?_⟩, ?_⟩
      · show (-1 : Int) < 0; decide
      · show (0 : Int) ≤ 1; decide
      · show (1 : Int) ≤ -d / 4; omega
      · show ¬ (_ ∧ (0 : Int) < 0); omega
      · exact Nat.gcd_one_left _
    have k1 : okF d 1 1 = false := by
      unfold okF
      rw [Bool.and_eq_false_iff, Bool.and_eq_false_iff]
      exact .inl (.inl (decide_eq_false (by show ¬ (1 - d) % 4 = 0; omega)))
    rw [if_pos h4, List.filter_cons_of_pos k0, List.filter_cons_of_neg (by rw [k1]; decide), ← c0]
    rfl
  · have k0 : okF d 1 0 = false := by
      unfold okF
      rw [Bool.and_eq_false_iff, Bool.and_eq_false_iff]
      exact .inl (.inl (decide_eq_false (by show ¬ (0 - d) % 4 = 0; omega)))
    have k1 : okF d 1 1 = true := by
      unfold okF
      rw [Bool.and_eq_true, Bool.and_eq_true, decide_eq_true_eq, decide_eq_true_eq, decide_eq_true_eq, c1]
      refine ⟨⟨by show (1 - d) % 4 = 0; omega, ?_, ?_, ?_, ?_⟩, ?_⟩
      · show (-1 : Int) < 1; decide
      · show (1 : Int) ≤ 1; decide
      · show (1 : Int) ≤ (1 - d) / 4; omega
      · show ¬ (_ ∧ (1 : Int) < 0); omega
      · exact Nat.gcd_one_left _
    rw [if_neg (by omega), List.filter_cons_of_neg (by rw [k0]; decide), List.filter_cons_of_pos k1, ← c1]
    rfl
local macro_rules | `(tactic| walk_at "d1") => `(tactic| try simp only [dSeq, dSkip, dPass, dRet, dRetN, dDrop, dCond, dAsg, gNm, gTp, dOwn, dOwnL, dPar, dAug, dApp, dExt, dFrz, dFor, dLc, dBreak, dCont, dVar, dC, dOp, dT, dIsi, dNeg, dNot, dTNot, dAnd, dOr, dTAnd, dTOr, dIf, dCh, dNil, dCons, dTup, dLst, dIxO, dB, dCall, dCallW, dItems, dRng1, dRng2, dYes, fnE, startE, startW, startS, dLenO, dLenS, dIxS, dSl, dPt, dNo, wipeE, addD_int, addD_str, addD_tup, addD_lst, subD_int, mulD_int, mulD_tup, mulD_lst, fdivD_int, modD_int, powD_int, shlD_int, shrD_int, andD_int, ltD_int, leD_int, gtD_int, geD_int, eqD_ap, neD_ap, isD_ap, isNotD_ap, isNon_none, isNon_int, isNon_bool, isNon_str, isNon_tup, isNon_lst, isInt_none, isInt_int, isInt_bool, isInt_str, isInt_tup, isInt_lst, isBool_none, isBool_int, isBool_bool, isBool_str, isBool_tup, isBool_lst, isStr_none, isStr_int, isStr_bool, isStr_str, isStr_tup, isStr_lst, isTup_none, isTup_int, isTup_bool, isTup_str, isTup_tup, isTup_lst, isLst_lst, Cnd_true, Cnd_false, Cnd_not, Cnd_dec, asB_bool, forall_const, true_implies, false_implies, implies_true, decide_true, decide_false, Classical.not_not, negD_int, notD_bool, onVal_val, onOwn_own, onDic_dic, onScr_scr, onWv_wv, onInt_int, onTup_tup, onLst_lst, onItems_lst, onItems_tup, frz1_own, frz1_val, frz1_un, ixD_lst, ixD_tup, ixL_int, optD_some, optI_some, absD_int, intD_int, intD_bool, lenD_lst, lenD_tup, lenD_str, tupleD_lst, tupleD_tup, listD_lst, listD_tup, min2D_int, max2D_int, sumD_ints, allD_bls, anyD_bls, slD_lst, slD_tup, slD_str, gNl_nil, gCs_cons, par2_two, seq1_lst, seq1_tup, rng1D_int, rng2D_int, gt_z, gt_s, sp_next_int, set_z, set_s, List.map_cons, List.map_nil, List.length_cons, List.length_nil, List.cons_append, List.nil_append, List.replicate, Nat.reduceAdd, Nat.reduceSub, Nat.zero_add, shaped_int, shaped_bool, shaped_none, shaped_listI, shaped_tupI, shaped_nilL, shaped_nilT, eqv_int, eqv_bool, eqv_str, eqv_none, eqv_list_nil, List.isEmpty_nil, List.isEmpty_cons, Bool.true_eq_false, Bool.false_eq_true, decide_eq_true_eq, and_self, true_and, and_true, not_dec, Bool.not_eq_true', decide_eq_false_iff_not, atI_0, atI_1, atI_2, ite_true, ite_false, if_true, if_false, reduceIte, Bool.not_true, Bool.not_false, not_true_eq_false, not_false_eq_true, List.set_cons_zero, List.set_cons_succ, dPar3, dRev, par3_three, sortedD_ints, revD_tup, two_nat, one_nat, three_nat, dCh3, dOwnC, dPutPar, putPar_two, dZip2, zip2D_lst, zip2D_tup, dPut, isBD_bl, isNotBD_bl, dNewO, dPutO, dSortedO, putKD_int, dPar3O, dParO2, par3O_two, parO2_one, minLD_lst, dKeysW, rdPairs_nil, rdPairs_cons, onPair_ii, inTD_lst, gTl, dAugS, dZip3, zip3D_tup, zip3L_cons, zip3L_nil, revD_lst, spx_law_common_v2, spx_law_lone_t, spx_law_lone_l])
local macro_rules | `(tactic| walk_at "dd") => `(tactic| (walk_at "d1"; repeat (with_reducible (refine then_intro ?_); walk_at "d1")))
def rd_law_zeros_b1 : DTS :=
  (dSeq (dAsg (dOp subD (dOp subD (dC (.int 0)) (dOp mulD (dOp mulD (dOp ixD (dVar 0) (dC (.int 0))) (dVar 2)) (dVar 2))) (dOp mulD (dOp mulD (dOp ixD (dVar 0) (dC (.int 1))) (dVar 3)) (dVar 3))) (gNm 4)) (dCond (dTAnd (dT (dOp eqD (dOp modD (dB intD (dCons (dVar 4) dNil)) (dOp ixD (dVar 0) (dC (.int 2)))) (dC (.int 0)))) (dT (dOp geD (dOp fdivD (dVar 4) (dOp ixD (dVar 0) (dC (.int 2)))) (dC (.int 0))))) (dSeq (dAsg (dLc false (dRng1 (dCons (dC (.int 60)) dNil)) (gNm 6) (dT (dOp eqD (dOp mulD (dVar 6) (dVar 6)) (dOp fdivD (dVar 4) (dOp ixD (dVar 0) (dC (.int 2)))))) (dVar 6) [6]) (gNm 5)) (dCond (dTAnd (dT (dOp neD (dVar 5) (dLst dNil))) (dT (dOp neD (dTup (dCons (dVar 2) (dCons (dVar 3) (dCons (dOp ixD (dVar 5) (dC (.int 0))) dNil)))) (dTup (dCons (dC (.int 0)) (dCons (dC (.int 0)) (dCons (dC (.int 0)) dNil))))))) (dAsg (dOp addD (dVar 1) (dLst (dCons (dCall sp_law_lone (dCons (dTup (dCons (dVar 2) (dCons (dVar 3) (dCons (dOp ixD (dVar 5) (dC (.int 0))) dNil)))) dNil)) (dCons (dCall sp_law_lone (dCons (dTup (dCons (dVar 2) (dCons (dVar 3) (dCons (dOp subD (dC (.int 0)) (dOp ixD (dVar 5) (dC (.int 0)))) dNil)))) dNil)) dNil)))) (gNm 1)) dSkip)) dSkip))
def rd_law_zeros_b2 : DTS :=
  (dFor (dRng2 (dCons (dNeg (dC (.int 8))) (dCons (dC (.int 9)) dNil))) (gNm 3) rd_law_zeros_b1)
def rd_law_zeros : DTS :=
  (dSeq (dAsg (dLst dNil) (gNm 1)) (dSeq (dFor (dRng1 (dCons (dC (.int 9)) dNil)) (gNm 2) rd_law_zeros_b2) (dRet (dB setSortTD (dCons (dVar 1) dNil)))))
def lst3 (t : Int × Int × Int) : List Int := [t.1, t.2.1, t.2.2]
def ZerL (a b c : Int) (m : List Int) : Prop := ∃ X Y Z, m = [X, Y, Z] ∧ ZerP a b c X Y Z ∧ Z.natAbs ≤ 59
def sp_law_zeros : Lay.Spec := fun ds R => match ds with
  | [.tuple [.int a, .int b, .int c]] => ((a ≠ 0 ∧ b ≠ 0 ∧ c ≠ 0) ∧ (a.natAbs ≤ 3485 ∧ b.natAbs ≤ 3485 ∧ c.natAbs ≤ 3485) ∧ FewB a b) ∧ ∀ ms : List (List Int), (∀ m ∈ ms, ZerL a b c m) → (∀ (x : Nat) (y : Int) (k : Nat), x < 9 → -8 ≤ y → y ≤ 8 → k < 60 → ¬ ((x : Int) = 0 ∧ y = 0 ∧ (k : Int) = 0) → a * x * x + b * y * y + c * k * k = 0 → ms ≠ []) → R (.list (ms.map tupD))
  | _ => False
theorem spx_law_zeros {a b c : Int} {R : D → Prop} : sp_law_zeros [.tuple [.int a, .int b, .int c]] R = (((a ≠ 0 ∧ b ≠ 0 ∧ c ≠ 0) ∧ (a.natAbs ≤ 3485 ∧ b.natAbs ≤ 3485 ∧ c.natAbs ≤ 3485) ∧ FewB a b) ∧ ∀ ms : List (List Int), (∀ m ∈ ms, ZerL a b c m) → (∀ (x : Nat) (y : Int) (k : Nat), x < 9 → -8 ≤ y → y ≤ 8 → k < 60 → ¬ ((x : Int) = 0 ∧ y = 0 ∧ (k : Int) = 0) → a * x * x + b * y * y + c * k * k = 0 → ms ≠ []) → R (.list (ms.map tupD))) := rfl
/-- what was found before the turn (i, j) -/
structure ZI (a b c : Int) (ns : List (List Int)) (i j : Nat) : Prop where
  own : ∀ m ∈ ns, ZerL a b c m
  len : ns.length ≤ 2 * (17 * i + j)
  all : ∀ (x : Nat) (y : Int) (k : Nat), -8 ≤ y → y ≤ 8 → k < 60 → ¬ ((x : Int) = 0 ∧ y = 0 ∧ (k : Int) = 0) → a * x * x + b * y * y + c * k * k = 0 → (x < i ∨ (x = i ∧ y < -8 + j)) → ns ≠ []
theorem ZI.skip {a b c : Int} {ns : List (List Int)} {i j : Nat} {y : Int} (h : ZI a b c ns i j) (hy : -8 + (j : Int) = y) (no : ∀ k : Nat, k < 60 → ¬ ((i : Int) = 0 ∧ y = 0 ∧ (k : Int) = 0) → a * i * i + b * y * y + c * k * k ≠ 0) : ZI a b c ns i (j + 1) := by
  refine ⟨h.own, by have := h.len; omega, fun x y' k h1 h2 h3 h4 h5 h6 => ?_⟩
  by_cases z : x = i ∧ y' = y
  · obtain ⟨rfl, rfl⟩ := z
    exact absurd h5 (no k h3 h4)
  · exact h.all x y' k h1 h2 h3 h4 h5 (by omega)
theorem ZI.add {a b c : Int} {ns : List (List Int)} {i j : Nat} {p q : List Int} (h : ZI a b c ns i j) (hp : ZerL a b c p) (hq : ZerL a b c q) : ZI a b c (ns ++ [p, q]) i (j + 1) := by
  refine ⟨fun m hm => ?_, by rw [List.length_append]; have := h.len; show ns.length + 2 ≤ _; omega, fun x y' k _ _ _ _ _ _ e => ?_⟩
  · rcases List.mem_append.mp hm with z | z
    · exact h.own m z
    · rcases List.mem_cons.mp z with rfl | z
      · exact hp
      · rw [List.mem_singleton.mp z]; exact hq
  · have := congrArg List.length e
    rw [List.length_append] at this
    simp at this
theorem zerL_of {a b c x y z : Int} (h : a * x * x + b * y * y + c * z * z = 0) (nz : ¬ (x = 0 ∧ y = 0 ∧ z = 0)) (bx : x.natAbs ≤ 8) (by' : y.natAbs ≤ 8) (bz : z.natAbs ≤ 59) : ZerL a b c (lst3 (loneT x y z)) := by
  obtain ⟨h1, h2⟩ := lone_zerP h nz bx by'
  exact ⟨_, _, _, rfl, h1, by omega⟩
theorem fmod_zero_iff {m c : Int} (_c0 : c ≠ 0) : m.fmod c = 0 ↔ c ∣ m := by
  constructor
  · intro h
    have := Int.mul_fdiv_add_fmod m c
    exact ⟨m.fdiv c, by omega⟩
  · rintro ⟨q, rfl⟩
    exact Int.mul_fmod_right c q
theorem lone_tup (t : Int × Int × Int) : loneD t = tupD (lst3 t) := rfl
theorem ok_law_zeros : ∀ ds R, sp_law_zeros ds R → rd_law_zeros (fnE R) (startE 7 ds) := by
  intro ds R H
  unfold sp_law_zeros at H
  split at H
  · rename_i a b c
    obtain ⟨⟨⟨a0, b0, c0⟩, ⟨ba, bb, bc⟩, few⟩, H⟩ := H
    have hsz : 100000 < sizeLine := by decide
    unfold rd_law_zeros
    walk_at "dd"
    refine ⟨by decide, ?_⟩
    refine for_by (fun (s : List (List Int) × Sl × Sl × Sl × Sl × Sl) => [.val (.tuple [.int a, .int b, .int c]), .val (.list (s.1.map tupD)), s.2.1, s.2.2.1, s.2.2.2.1, s.2.2.2.2.1, s.2.2.2.2.2]) (fun i s => i ≤ 9 ∧ ZI a b c s.1 i 0) ([], .un, .un, .un, .un, .un) rfl ⟨by decide, ⟨fun m hm => absurd hm List.not_mem_nil, Nat.zero_le _, fun x y k _ _ _ _ _ w => by omega⟩⟩ ?_ ?_
    · rintro i d hd ⟨ns, u1, u2, u3, u4, u5⟩ ⟨_, hz⟩ bk
      obtain ⟨hi, rfl⟩ := rangeD_get hd
      have hi : i < 9 := hi
      rw [Int.zero_add]
      simp only at hz
      unfold rd_law_zeros_b2
      walk_at "dd"
      refine ⟨⟨by decide, by decide, by decide, by decide⟩, ?_⟩
      refine for_by (fun (s : List (List Int) × Sl × Sl × Sl × Sl) => [.val (.tuple [.int a, .int b, .int c]), .val (.list (s.1.map tupD)), .val (.int (i : Int)), s.2.1, s.2.2.1, s.2.2.2.1, s.2.2.2.2]) (fun j s => j ≤ 17 ∧ ZI a b c s.1 i j) (ns, u2, u3, u4, u5) rfl ⟨by decide, hz⟩ ?_ ?_
      · rintro j d hd2 ⟨ms, v2, v3, v4, v5⟩ ⟨_, hz2⟩ bk2
        obtain ⟨hj, rfl⟩ := rangeD_get hd2
        have hj : j < 17 := hj
        simp only at hz2
        generalize hy : (-8 : Int) + (j : Int) = y
        unfold rd_law_zeros_b1
        walk_at "dd"
        have h12 : ∀ {n : Int}, n.natAbs ≤ 3485 → n.natAbs < 2 ^ 12 := fun h => by omega
        have xi : ((i : Int)).natAbs < 2 ^ 4 := by omega
        have yi : y.natAbs < 2 ^ 4 := by omega
        refine ⟨mulOk (h12 ba) xi (by decide), mulOk (bits_mul (h12 ba) xi) xi (by decide), mulOk (h12 bb) yi (by decide), mulOk (bits_mul (h12 bb) yi) yi (by decide), then_intro ?_⟩
        have ym : -8 ≤ y ∧ y ≤ 8 := by omega
        have leave : ∀ (ms' : List (List Int)) (w3 w4 w5 : Sl), ZI a b c ms' i (j + 1) → ∃ a' : List (List Int) × Sl × Sl × Sl × Sl, ([.val (.tuple [.int a, .int b, .int c]), .val (.list (ms'.map tupD)), .val (.int (i : Int)), .val (.int y), w3, w4, w5] : En) = [.val (.tuple [.int a, .int b, .int c]), .val (.list (a'.1.map tupD)), .val (.int (i : Int)), a'.2.1, a'.2.2.1, a'.2.2.2.1, a'.2.2.2.2] ∧ j + 1 ≤ 17 ∧ ZI a b c a'.1 i (j + 1) := fun ms' w3 w4 w5 h => ⟨(ms', _, _, _, _), rfl, by omega, h⟩
        generalize hl : 0 - a * (i : Int) * (i : Int) - b * y * y = left
        have bl : left.natAbs < 2 ^ 22 := by
          have e1 := bits_mul (bits_mul (h12 ba) xi) xi
          have e2 := bits_mul (bits_mul (h12 bb) yi) yi
          have : 2 ^ (12 + 4 + 4) * 4 = 2 ^ 22 := by decide
          omega
        have dv : CDivB left c := divOk c0 (h12 bc) (by decide)
        walk_at "dd"
        refine ⟨c0, fun hm => ⟨dv, fun hq => ?_, fun hq => ?_⟩, fun hm => ?_⟩
        · obtain ⟨q, hq'⟩ := (fmod_zero_iff c0).mp hm
          have ed : left.fdiv c = q := by rw [hq']; exact Int.mul_fdiv_cancel_left _ c0
          rw [ed] at hq
          refine ⟨by decide, ?_⟩
          rw [rangeD_ints]
          refine lc_ints (fun k => decide (k * k = q)) (fun _ => by rw [List.length_map, List.length_range]; show 60 ≤ sizeLine; omega) (fun k hk P hP => ?_) ?_
          · obtain ⟨n, hn, rfl⟩ := List.mem_map.mp hk
            have hn : n < 60 := List.mem_range.mp hn
            walk_at "dd"
            rw [ed]
            refine ⟨mulOk (n := 7) (m := 7) (by omega) (by omega) (by decide), dv, fun e => ?_, fun e => ?_⟩
            · rw [decide_eq_true e] at hP
              exact hP
            · rw [decide_eq_false e] at hP
              exact hP
          · generalize hks : (((List.range (Int.toNat 60)).map fun (i : Nat) => (0 : Int) + (i : Int)).filter fun k => decide (k * k = q)) = ks
            have inks : ∀ k : Nat, k < 60 → (k : Int) * k = q → (k : Int) ∈ ks := fun k hk e => by
              rw [← hks]
              exact List.mem_filter.mpr ⟨List.mem_map.mpr ⟨k, List.mem_range.mpr hk, Int.zero_add _⟩, decide_eq_true e⟩
            have solq : ∀ k : Int, a * i * i + b * y * y + c * k * k = 0 ↔ k * k = q := fun k => by
              have e1 : c * k * k = c * (k * k) := Int.mul_assoc ..
              constructor
              · intro h
                exact Int.eq_of_mul_eq_mul_left c0 (by rw [← hq', ← hl]; omega)
              · intro h
                rw [e1, h, ← hq', ← hl]
                omega
            refine then_intro ?_
            cases hks2 : ks with
            | nil =>
              walk_at "dd"
              refine leave _ _ _ _ (hz2.skip hy fun k hk _ e => ?_)
              have := inks k hk ((solq _).mp e)
              rw [hks2] at this
              exact absurd this List.not_mem_nil
            | cons k0 r =>
              have hk0 : k0 ∈ ks := by rw [hks2]; exact List.mem_cons_self
              rw [← hks] at hk0
              obtain ⟨h1, h2⟩ := List.mem_filter.mp hk0
              obtain ⟨n, hn, en⟩ := List.mem_map.mp h1
              have hn : n < 60 := List.mem_range.mp hn
              have ek : k0 * k0 = q := of_decide_eq_true h2
              walk_at "dd"
              have ev := eqv_tupI [(i : Int), y, k0] [0, 0, 0]
              simp only [List.map_cons, List.map_nil] at ev
              rw [ev]
              refine ⟨shaped_listI (k0 :: r), ⟨shaped_tupI [(i : Int), y, k0], shaped_tupI [0, 0, 0]⟩, ?_⟩
              by_cases zz : [(i : Int), y, k0] = [0, 0, 0]
              · rw [decide_eq_true zz]
                refine leave _ _ _ _ (hz2.skip hy fun k hk nz e => ?_)
                simp only [List.cons.injEq, and_true] at zz
                obtain ⟨zi, zy, zk⟩ := zz
                have kk : (k : Int) * k = 0 := by rw [(solq _).mp e, ← ek, zk]; rfl
                exact nz ⟨zi, zy, (Int.mul_eq_zero.mp kk).elim id id⟩
              · rw [decide_eq_false zz]
                have nz : ¬ ((i : Int) = 0 ∧ y = 0 ∧ k0 = 0) := fun w => zz (by rw [w.1, w.2.1, w.2.2])
                have p200 : 100 < 2 ^ 200 := by decide
                refine ⟨⟨by omega, by omega, by omega⟩, ⟨by omega, by omega, by omega⟩, by rw [List.length_map]; have := hz2.len; omega, ?_⟩
                have sol : a * i * i + b * y * y + c * k0 * k0 = 0 := (solq k0).mpr ek
                have sol2 : a * i * i + b * y * y + c * (0 - k0) * (0 - k0) = 0 := (solq _).mpr (by rw [← ek]; grind)
                have z1 := zerL_of sol nz (by omega) (by omega) (by omega)
                have z2 := zerL_of sol2 (fun w => nz ⟨w.1, w.2.1, by omega⟩) (by omega) (by omega) (by omega)
                rw [lone_tup, lone_tup, show ms.map tupD ++ [tupD (lst3 (loneT (i : Int) y k0)), tupD (lst3 (loneT (i : Int) y (0 - k0)))] = (ms ++ [lst3 (loneT (i : Int) y k0), lst3 (loneT (i : Int) y (0 - k0))]).map tupD by rw [List.map_append]; rfl]
                exact leave _ _ _ _ (hz2.add z1 z2)
        · refine leave _ _ _ _ (hz2.skip hy fun k hk _ e => ?_)
          obtain ⟨q, hq'⟩ := (fmod_zero_iff c0).mp hm
          have ed : left.fdiv c = q := by rw [hq']; exact Int.mul_fdiv_cancel_left _ c0
          rw [ed] at hq
          have e1 : c * k * k = c * ((k : Int) * k) := Int.mul_assoc ..
          have : (k : Int) * k = q := Int.eq_of_mul_eq_mul_left c0 (by rw [← hq', ← hl]; omega)
          have := Int.mul_nonneg (show 0 ≤ (k : Int) by omega) (show 0 ≤ (k : Int) by omega)
          omega
        · refine leave _ _ _ _ (hz2.skip hy fun k hk _ e => ?_)
          refine hm ((fmod_zero_iff c0).mpr ⟨(k : Int) * k, ?_⟩)
          have e1 : c * k * k = c * ((k : Int) * k) := Int.mul_assoc ..
          omega
      · rintro ⟨ms, v2, v3, v4, v5⟩ ⟨_, hz2⟩
        have hz2 : ZI a b c ms i 17 := hz2
        exact ⟨(ms, _, _, _, _, _), rfl, by omega, ⟨hz2.own, by have := hz2.len; show ms.length ≤ 2 * (17 * (i + 1) + 0); omega, fun x y k h1 h2 h3 h4 h5 h6 => hz2.all x y k h1 h2 h3 h4 h5 (by omega)⟩⟩
    · rintro ⟨ns, u1, u2, u3, u4, u5⟩ ⟨_, hz⟩
      simp only at hz
      walk_at "dd"
      have hz : ZI a b c ns 9 0 := hz
      rw [setSortTD_lst]
      refine ⟨ns, 3, rfl, by decide, fun m hm => ?_, fun ms nd sub => ?_, fun ms nd mem _ => ?_⟩
      · obtain ⟨X, Y, Z, rfl, _⟩ := hz.own m hm
        rfl
      · refine Nat.le_trans (few_zeros a0 b0 c0 few ms nd fun m hm => ?_) (by decide)
        obtain ⟨X, Y, Z, e, z, _⟩ := hz.own m (sub m hm)
        exact ⟨X, Y, Z, e, z⟩
      · refine H ms (fun m hm => hz.own m ((mem m).mp hm)) fun x y k h0 h1 h2 h3 h4 h5 e => ?_
        have ne := hz.all x y k h1 h2 h3 h4 h5 (.inl h0)
        cases ns with
        | nil => exact ne rfl
        | cons m r =>
          have := (mem m).mpr List.mem_cons_self
          rw [e] at this
          exact absurd this List.not_mem_nil
  · exact H.elim
local macro_rules | `(tactic| walk_at "d1") => `(tactic| try simp only [dSeq, dSkip, dPass, dRet, dRetN, dDrop, dCond, dAsg, gNm, gTp, dOwn, dOwnL, dPar, dAug, dApp, dExt, dFrz, dFor, dLc, dBreak, dCont, dVar, dC, dOp, dT, dIsi, dNeg, dNot, dTNot, dAnd, dOr, dTAnd, dTOr, dIf, dCh, dNil, dCons, dTup, dLst, dIxO, dB, dCall, dCallW, dItems, dRng1, dRng2, dYes, fnE, startE, startW, startS, dLenO, dLenS, dIxS, dSl, dPt, dNo, wipeE, addD_int, addD_str, addD_tup, addD_lst, subD_int, mulD_int, mulD_tup, mulD_lst, fdivD_int, modD_int, powD_int, shlD_int, shrD_int, andD_int, ltD_int, leD_int, gtD_int, geD_int, eqD_ap, neD_ap, isD_ap, isNotD_ap, isNon_none, isNon_int, isNon_bool, isNon_str, isNon_tup, isNon_lst, isInt_none, isInt_int, isInt_bool, isInt_str, isInt_tup, isInt_lst, isBool_none, isBool_int, isBool_bool, isBool_str, isBool_tup, isBool_lst, isStr_none, isStr_int, isStr_bool, isStr_str, isStr_tup, isStr_lst, isTup_none, isTup_int, isTup_bool, isTup_str, isTup_tup, isTup_lst, isLst_lst, Cnd_true, Cnd_false, Cnd_not, Cnd_dec, asB_bool, forall_const, true_implies, false_implies, implies_true, decide_true, decide_false, Classical.not_not, negD_int, notD_bool, onVal_val, onOwn_own, onDic_dic, onScr_scr, onWv_wv, onInt_int, onTup_tup, onLst_lst, onItems_lst, onItems_tup, frz1_own, frz1_val, frz1_un, ixD_lst, ixD_tup, ixL_int, optD_some, optI_some, absD_int, intD_int, intD_bool, lenD_lst, lenD_tup, lenD_str, tupleD_lst, tupleD_tup, listD_lst, listD_tup, min2D_int, max2D_int, sumD_ints, allD_bls, anyD_bls, slD_lst, slD_tup, slD_str, gNl_nil, gCs_cons, par2_two, seq1_lst, seq1_tup, rng1D_int, rng2D_int, gt_z, gt_s, sp_next_int, set_z, set_s, List.map_cons, List.map_nil, List.length_cons, List.length_nil, List.cons_append, List.nil_append, List.replicate, Nat.reduceAdd, Nat.reduceSub, Nat.zero_add, shaped_int, shaped_bool, shaped_none, shaped_listI, shaped_tupI, shaped_nilL, shaped_nilT, eqv_int, eqv_bool, eqv_str, eqv_none, eqv_list_nil, List.isEmpty_nil, List.isEmpty_cons, Bool.true_eq_false, Bool.false_eq_true, decide_eq_true_eq, and_self, true_and, and_true, not_dec, Bool.not_eq_true', decide_eq_false_iff_not, atI_0, atI_1, atI_2, ite_true, ite_false, if_true, if_false, reduceIte, Bool.not_true, Bool.not_false, not_true_eq_false, not_false_eq_true, List.set_cons_zero, List.set_cons_succ, dPar3, dRev, par3_three, sortedD_ints, revD_tup, two_nat, one_nat, three_nat, dCh3, dOwnC, dPutPar, putPar_two, dZip2, zip2D_lst, zip2D_tup, dPut, isBD_bl, isNotBD_bl, dNewO, dPutO, dSortedO, putKD_int, dPar3O, dParO2, par3O_two, parO2_one, minLD_lst, dKeysW, rdPairs_nil, rdPairs_cons, onPair_ii, inTD_lst, gTl, dAugS, dZip3, zip3D_tup, zip3L_cons, zip3L_nil, revD_lst, spx_law_common_v2, spx_law_lone_t, spx_law_lone_l, spx_law_zeros])
local macro_rules | `(tactic| walk_at "dd") => `(tactic| (walk_at "d1"; repeat (with_reducible (refine then_intro ?_); walk_at "d1")))
def rd_law_drawn_v1_b1 : DTS :=
  (dSeq (dAsg (dCallW 0 sp_law_form_v2 dNil) (gNm 2)) (dSeq (dAsg (dCall sp_law_zeros (dCons (dVar 2) dNil)) (gNm 3)) (dCond (dT (dOp neD (dVar 3) (dLst dNil))) (dRet (dTup (dCons (dVar 2) (dCons (dVar 3) dNil)))) dSkip)))
def rd_law_drawn_v1 : DTS :=
  (dSeq (dFor (dRng1 (dCons (dC (.int 12)) dNil)) (gNm 1) rd_law_drawn_v1_b1) (dRet (dTup (dCons (dTup (dCons (dC (.int 1)) (dCons (dC (.int 1)) (dCons (dNeg (dC (.int 1))) dNil)))) (dCons (dCall sp_law_zeros (dCons (dTup (dCons (dC (.int 1)) (dCons (dC (.int 1)) (dCons (dNeg (dC (.int 1))) dNil)))) dNil)) dNil)))))
def FormN (a b c : Int) : Prop := (a ≠ 0 ∧ b ≠ 0 ∧ c ≠ 0) ∧ (a.natAbs ≤ 3485 ∧ b.natAbs ≤ 3485 ∧ c.natAbs ≤ 3485)
def sp_law_drawn_v1 : Lay.Spec := fun ds R => match ds with
  | [] => ∀ (a b c : Int) (ms : List (List Int)), FormN a b c → ms ≠ [] → (∀ m ∈ ms, ZerL a b c m) → R (.tuple [.tuple [.int a, .int b, .int c], .list (ms.map tupD)])
  | _ => False
theorem spx_law_drawn_v1 {R : D → Prop} : sp_law_drawn_v1 [] R = ∀ (a b c : Int) (ms : List (List Int)), FormN a b c → ms ≠ [] → (∀ m ∈ ms, ZerL a b c m) → R (.tuple [.tuple [.int a, .int b, .int c], .list (ms.map tupD)]) := rfl
theorem two_few {a b c : Int} (h : FormT a b c) : FewB a b := by
  obtain ⟨⟨_, ⟨h1, h2, h3⟩, _⟩, t⟩ := h
  rcases t with ⟨t1, t2⟩ | ⟨t1, t2⟩ | ⟨t1, t2⟩
  · exact .inl ⟨h1, t2⟩
  · exact .inr ⟨t1, h2⟩
  · exact .inl ⟨h1, t1⟩
theorem depth_ints : ∀ m : List Int, PyData.depthAll (m.map .int) = 0
  | [] => rfl
  | n :: m => by
    rw [List.map_cons, PyData.depthAll, depth_ints m]
    rfl
theorem depth_tups : ∀ ms : List (List Int), PyData.depthAll (ms.map tupD) ≤ 1
  | [] => Nat.zero_le _
  | m :: ms => by
    have := depth_tups ms
    have e : PyData.depth (tupD m) = 1 := by
      unfold tupD
      rw [PyData.depth, depth_ints]
    rw [List.map_cons, PyData.depthAll, e]
    omega
theorem lay_tups : ∀ ms : List (List Int), PyData.canLayAll0 (ms.map tupD) = true
  | [] => rfl
  | m :: ms => by
    rw [List.map_cons, PyData.canLayAll0, lay_tups ms, Bool.and_true]
    exact (Bool.and_eq_true_iff.mp (shaped_tupI m)).1
theorem shaped_tups (ms : List (List Int)) : SeqAt.shaped (.list (ms.map tupD)) = true := by
  have h2 : PyData.depth (.list (ms.map tupD)) ≤ 64 := by
    have := depth_tups ms
    simp only [PyData.depth]
    omega
  show (PyData.canLay0 (.list (ms.map tupD)) && decide (PyData.depth (.list (ms.map tupD)) ≤ 64)) = true
  rw [Bool.and_eq_true]
  exact ⟨by simp only [PyData.canLay0]; exact lay_tups ms, decide_eq_true h2⟩
theorem ok_law_drawn_v1 : ∀ ds R, sp_law_drawn_v1 ds R → rd_law_drawn_v1 (fnE R) (startW 4 ds) := by
  intro ds R H
  unfold sp_law_drawn_v1 at H
  split at H
  · unfold rd_law_drawn_v1
    walk_at "dd"
    refine ⟨by decide, ?_⟩
    refine for_by (fun (s : Sl × Sl × Sl) => [.wv, s.1, s.2.1, s.2.2]) (fun _ _ => True) (.un, .un, .un) rfl trivial ?_ ?_
    · rintro i d hd ⟨u1, u2, u3⟩ _ bk
      unfold rd_law_drawn_v1_b1
      walk_at "dd"
      intro a b c hf
      have h0 := hf.1.1
      have h1 := hf.1.2.1
      refine then_intro ?_
      walk_at "dd"
      refine ⟨⟨h0, h1, two_few hf⟩, fun ms hz _ => ?_⟩
      refine then_intro ?_
      walk_at "dd"
      refine ⟨shaped_tups ms, ?_⟩
      cases ms with
      | nil => exact ⟨(_, _, _), rfl⟩
      | cons m ms =>
        exact H a b c (m :: ms) ⟨h0, h1⟩ (List.cons_ne_nil _ _) hz
    · rintro ⟨u1, u2, u3⟩ _
      walk_at "dd"
      refine ⟨⟨⟨by decide, by decide, by decide⟩, ⟨by decide, by decide, by decide⟩, .inl ⟨by decide, by decide⟩⟩, fun ms hz ne => ?_⟩
      exact H 1 1 (-1) ms ⟨⟨by decide, by decide, by decide⟩, by decide, by decide, by decide⟩ (ne 1 0 1 (by decide) (by decide) (by decide) (by decide) (by decide) (by decide)) hz
  · exact H.elim
local macro_rules | `(tactic| walk_at "d1") => `(tactic| try simp only [dSeq, dSkip, dPass, dRet, dRetN, dDrop, dCond, dAsg, gNm, gTp, dOwn, dOwnL, dPar, dAug, dApp, dExt, dFrz, dFor, dLc, dBreak, dCont, dVar, dC, dOp, dT, dIsi, dNeg, dNot, dTNot, dAnd, dOr, dTAnd, dTOr, dIf, dCh, dNil, dCons, dTup, dLst, dIxO, dB, dCall, dCallW, dItems, dRng1, dRng2, dYes, fnE, startE, startW, startS, dLenO, dLenS, dIxS, dSl, dPt, dNo, wipeE, addD_int, addD_str, addD_tup, addD_lst, subD_int, mulD_int, mulD_tup, mulD_lst, fdivD_int, modD_int, powD_int, shlD_int, shrD_int, andD_int, ltD_int, leD_int, gtD_int, geD_int, eqD_ap, neD_ap, isD_ap, isNotD_ap, isNon_none, isNon_int, isNon_bool, isNon_str, isNon_tup, isNon_lst, isInt_none, isInt_int, isInt_bool, isInt_str, isInt_tup, isInt_lst, isBool_none, isBool_int, isBool_bool, isBool_str, isBool_tup, isBool_lst, isStr_none, isStr_int, isStr_bool, isStr_str, isStr_tup, isStr_lst, isTup_none, isTup_int, isTup_bool, isTup_str, isTup_tup, isTup_lst, isLst_lst, Cnd_true, Cnd_false, Cnd_not, Cnd_dec, asB_bool, forall_const, true_implies, false_implies, implies_true, decide_true, decide_false, Classical.not_not, negD_int, notD_bool, onVal_val, onOwn_own, onDic_dic, onScr_scr, onWv_wv, onInt_int, onTup_tup, onLst_lst, onItems_lst, onItems_tup, frz1_own, frz1_val, frz1_un, ixD_lst, ixD_tup, ixL_int, optD_some, optI_some, absD_int, intD_int, intD_bool, lenD_lst, lenD_tup, lenD_str, tupleD_lst, tupleD_tup, listD_lst, listD_tup, min2D_int, max2D_int, sumD_ints, allD_bls, anyD_bls, slD_lst, slD_tup, slD_str, gNl_nil, gCs_cons, par2_two, seq1_lst, seq1_tup, rng1D_int, rng2D_int, gt_z, gt_s, sp_next_int, set_z, set_s, List.map_cons, List.map_nil, List.length_cons, List.length_nil, List.cons_append, List.nil_append, List.replicate, Nat.reduceAdd, Nat.reduceSub, Nat.zero_add, shaped_int, shaped_bool, shaped_none, shaped_listI, shaped_tupI, shaped_nilL, shaped_nilT, eqv_int, eqv_bool, eqv_str, eqv_none, eqv_list_nil, List.isEmpty_nil, List.isEmpty_cons, Bool.true_eq_false, Bool.false_eq_true, decide_eq_true_eq, and_self, true_and, and_true, not_dec, Bool.not_eq_true', decide_eq_false_iff_not, atI_0, atI_1, atI_2, ite_true, ite_false, if_true, if_false, reduceIte, Bool.not_true, Bool.not_false, not_true_eq_false, not_false_eq_true, List.set_cons_zero, List.set_cons_succ, dPar3, dRev, par3_three, sortedD_ints, revD_tup, two_nat, one_nat, three_nat, dCh3, dOwnC, dPutPar, putPar_two, dZip2, zip2D_lst, zip2D_tup, dPut, isBD_bl, isNotBD_bl, dNewO, dPutO, dSortedO, putKD_int, dPar3O, dParO2, par3O_two, parO2_one, minLD_lst, dKeysW, rdPairs_nil, rdPairs_cons, onPair_ii, inTD_lst, gTl, dAugS, dZip3, zip3D_tup, zip3L_cons, zip3L_nil, revD_lst])
local macro_rules | `(tactic| walk_at "dd") => `(tactic| (walk_at "d1"; repeat (with_reducible (refine then_intro ?_); walk_at "d1")))
def rd_directions : DTS :=
  (dSeq (dAsg (dOp ixD (dLc false (dRng1 (dCons (dC (.int 3)) dNil)) (gNm 2) (dT (dOp neD (dOp ixD (dVar 0) (dVar 2)) (dC (.int 0)))) (dVar 2) [2]) (dC (.int 0))) (gNm 1)) (dSeq (dAsg (dLc false (dRng1 (dCons (dC (.int 3)) dNil)) (gNm 2) (dT (dOp neD (dVar 2) (dVar 1))) (dVar 2) [2]) (gNm 3)) (dRet (dLc true (dItems (dVar 3)) (gNm 4) dYes (dB tupleD (dCons (dLc false (dRng1 (dCons (dC (.int 3)) dNil)) (gNm 2) dYes (dIf (dT (dOp eqD (dVar 2) (dVar 4))) (dC (.int 1)) (dC (.int 0))) [2]) dNil)) [4]))))
def vD (x y z : Int) : D := .tuple [.int x, .int y, .int z]
def sp_directions : Lay.Spec := fun ds R => match ds with
  | [.tuple [.int x, .int y, .int z]] => (x ≠ 0 ∨ y ≠ 0) ∧ (x ≠ 0 → R (.list [vD 0 1 0, vD 0 0 1])) ∧ (x = 0 → R (.list [vD 1 0 0, vD 0 0 1]))
  | _ => False
theorem spx_directions {x y z : Int} {R : D → Prop} : sp_directions [.tuple [.int x, .int y, .int z]] R = ((x ≠ 0 ∨ y ≠ 0) ∧ (x ≠ 0 → R (.list [vD 0 1 0, vD 0 0 1])) ∧ (x = 0 → R (.list [vD 1 0 0, vD 0 0 1]))) := rfl
theorem range3 : rangeD 0 (Int.toNat 3) = [0, 1, 2].map PyData.int := rfl
theorem ok_directions : ∀ ds R, sp_directions ds R → rd_directions (fnE R) (startE 5 ds) := by
  intro ds R H
  unfold sp_directions at H
  split at H
  · rename_i x y z
    obtain ⟨nz, H1, H2⟩ := H
    unfold rd_directions
    walk_at "dd"
    refine ⟨by decide, ?_⟩
    rw [range3]
    refine lc_ints (ns := [0, 1, 2]) (fun k => decide (([x, y, z].getD k.toNat 0) ≠ 0)) (fun _ => by decide) (fun k hk P hP => ?_) ?_
    · simp only [List.mem_cons, List.not_mem_nil, or_false] at hk
      have go : ∀ (n v : Int), n = k → v = [x, y, z].getD k.toNat 0 → (v = 0 → P none) ∧ (v ≠ 0 → P (some (.int n))) := fun n v e1 e2 => by
        subst e1 e2
        exact ⟨fun w => by rw [decide_eq_false (fun q => q w)] at hP; exact hP, fun w => by rw [decide_eq_true w] at hP; exact hP⟩
      rcases hk with rfl | rfl | rfl
      · have := go 0 x rfl rfl
        walk_at "dd"
        exact this
      · have := go 1 y rfl rfl
        walk_at "dd"
        exact this
      · have := go 2 z rfl rfl
        walk_at "dd"
        exact this
    · have rest : ∀ p q r : Int, [0, 1, 2].filter (fun k : Int => decide (k ≠ p)) = [q, r] → R (.list [.tuple ([0, 1, 2].map fun k : Int => .int (if k = q then 1 else 0)), .tuple ([0, 1, 2].map fun k : Int => .int (if k = r then 1 else 0))]) → (dSeq
        (dAsg (dLc false (dRng1 (dCons (dC (PyData.int 3)) dNil)) (gNm 2) (dT (dOp neD (dVar 2) (dVar 1))) (dVar 2) [2])
          (gNm 3))
        (dRet
          (dLc true (dItems (dVar 3)) (gNm 4) dYes
            (dB tupleD
              (dCons
                (dLc false (dRng1 (dCons (dC (PyData.int 3)) dNil)) (gNm 2) dYes
                  (dIf (dT (dOp eqD (dVar 2) (dVar 4))) (dC (PyData.int 1)) (dC (PyData.int 0))) [2])
                dNil))
            [4]))) { nx := fun x => R PyData.none, rt := R } [Sl.val (PyData.tuple [PyData.int x, PyData.int y, PyData.int z]), Sl.val (.int p), Sl.un, Sl.un, Sl.un] := fun p q r e h => by
        walk_at "dd"
        refine ⟨by decide, ?_⟩
        rw [range3]
        refine lc_ints (ns := [0, 1, 2]) (fun k => decide (k ≠ p)) (fun _ => by decide) (fun k hk P hP => ?_) ?_
        · walk_at "dd"
          exact ⟨fun w => by rw [decide_eq_false (fun q => q w)] at hP; exact hP, fun w => by rw [decide_eq_true w] at hP; exact hP⟩
        · rw [e]
          walk_at "dd"
          refine lc_map (xs := [q, r]) (f := PyData.int) (k := fun q : Int => .tuple ([0, 1, 2].map fun k : Int => .int (if k = q then 1 else 0))) (p := fun n => some n) (fun w => nomatch w) (fun n hn P hP => ?_) ?_
          · walk_at "dd"
            refine ⟨by decide, ?_⟩
            rw [range3]
            refine lc_map (xs := [0, 1, 2]) (f := PyData.int) (k := PyData.int) (p := fun k : Int => some (if k = n then 1 else 0)) (fun _ => by decide) (fun k hk P hP => ?_) ?_
            · walk_at "dd"
              exact ⟨fun w => by rw [if_pos w] at hP; exact hP, fun w => by rw [if_neg w] at hP; exact hP⟩
            · exact hP
          · exact h
      by_cases hx : x = 0
      · have hy : y ≠ 0 := nz.resolve_left (fun w => w hx)
        have e : [0, 1, 2].filter (fun k : Int => decide (([x, y, z].getD k.toNat 0) ≠ 0)) = 1 :: [2].filter (fun k : Int => decide (([x, y, z].getD k.toNat 0) ≠ 0)) := by
          rw [List.filter_cons_of_neg (by show ¬ decide (x ≠ 0) = true; simp [hx]), List.filter_cons_of_pos (by show decide (y ≠ 0) = true; simp [hy])]
        rw [e, List.map_cons]
        walk_at "d1"
        exact then_intro (rest 1 0 2 (by decide) (H2 hx))
      · have e : [0, 1, 2].filter (fun k : Int => decide (([x, y, z].getD k.toNat 0) ≠ 0)) = 0 :: [1, 2].filter (fun k : Int => decide (([x, y, z].getD k.toNat 0) ≠ 0)) := by
          rw [List.filter_cons_of_pos (by show decide (x ≠ 0) = true; simp [hx])]
        rw [e, List.map_cons]
        walk_at "d1"
        exact then_intro (rest 0 1 2 (by decide) (H1 hx))
  · exact H.elim
local macro_rules | `(tactic| walk_at "d1") => `(tactic| try simp only [dSeq, dSkip, dPass, dRet, dRetN, dDrop, dCond, dAsg, gNm, gTp, dOwn, dOwnL, dPar, dAug, dApp, dExt, dFrz, dFor, dLc, dBreak, dCont, dVar, dC, dOp, dT, dIsi, dNeg, dNot, dTNot, dAnd, dOr, dTAnd, dTOr, dIf, dCh, dNil, dCons, dTup, dLst, dIxO, dB, dCall, dCallW, dItems, dRng1, dRng2, dYes, fnE, startE, startW, startS, dLenO, dLenS, dIxS, dSl, dPt, dNo, wipeE, addD_int, addD_str, addD_tup, addD_lst, subD_int, mulD_int, mulD_tup, mulD_lst, fdivD_int, modD_int, powD_int, shlD_int, shrD_int, andD_int, ltD_int, leD_int, gtD_int, geD_int, eqD_ap, neD_ap, isD_ap, isNotD_ap, isNon_none, isNon_int, isNon_bool, isNon_str, isNon_tup, isNon_lst, isInt_none, isInt_int, isInt_bool, isInt_str, isInt_tup, isInt_lst, isBool_none, isBool_int, isBool_bool, isBool_str, isBool_tup, isBool_lst, isStr_none, isStr_int, isStr_bool, isStr_str, isStr_tup, isStr_lst, isTup_none, isTup_int, isTup_bool, isTup_str, isTup_tup, isTup_lst, isLst_lst, Cnd_true, Cnd_false, Cnd_not, Cnd_dec, asB_bool, forall_const, true_implies, false_implies, implies_true, decide_true, decide_false, Classical.not_not, negD_int, notD_bool, onVal_val, onOwn_own, onDic_dic, onScr_scr, onWv_wv, onInt_int, onTup_tup, onLst_lst, onItems_lst, onItems_tup, frz1_own, frz1_val, frz1_un, ixD_lst, ixD_tup, ixL_int, optD_some, optI_some, absD_int, intD_int, intD_bool, lenD_lst, lenD_tup, lenD_str, tupleD_lst, tupleD_tup, listD_lst, listD_tup, min2D_int, max2D_int, sumD_ints, allD_bls, anyD_bls, slD_lst, slD_tup, slD_str, gNl_nil, gCs_cons, par2_two, seq1_lst, seq1_tup, rng1D_int, rng2D_int, gt_z, gt_s, sp_next_int, set_z, set_s, List.map_cons, List.map_nil, List.length_cons, List.length_nil, List.cons_append, List.nil_append, List.replicate, Nat.reduceAdd, Nat.reduceSub, Nat.zero_add, shaped_int, shaped_bool, shaped_none, shaped_listI, shaped_tupI, shaped_nilL, shaped_nilT, eqv_int, eqv_bool, eqv_str, eqv_none, eqv_list_nil, List.isEmpty_nil, List.isEmpty_cons, Bool.true_eq_false, Bool.false_eq_true, decide_eq_true_eq, and_self, true_and, and_true, not_dec, Bool.not_eq_true', decide_eq_false_iff_not, atI_0, atI_1, atI_2, ite_true, ite_false, if_true, if_false, reduceIte, Bool.not_true, Bool.not_false, not_true_eq_false, not_false_eq_true, List.set_cons_zero, List.set_cons_succ, dPar3, dRev, par3_three, sortedD_ints, revD_tup, two_nat, one_nat, three_nat, dCh3, dOwnC, dPutPar, putPar_two, dZip2, zip2D_lst, zip2D_tup, dPut, isBD_bl, isNotBD_bl, dNewO, dPutO, dSortedO, putKD_int, dPar3O, dParO2, par3O_two, parO2_one, minLD_lst, dKeysW, rdPairs_nil, rdPairs_cons, onPair_ii, inTD_lst, gTl, dAugS, dZip3, zip3D_tup, zip3L_cons, zip3L_nil, revD_lst])
local macro_rules | `(tactic| walk_at "dd") => `(tactic| (walk_at "d1"; repeat (with_reducible (refine then_intro ?_); walk_at "d1")))
/-- a x x summed -/
def worthF : List Int → List Int → Int
  | a :: as, x :: xs => a * x * x + worthF as xs
  | _, _ => 0
theorem worthF_eq : ∀ as xs : List Int, worthF as xs = (List.zipWith (fun a x => a * x * x) as xs).sum
  | [], xs => by cases xs <;> rfl
  | a :: as, [] => rfl
  | a :: as, x :: xs => by
    show a * x * x + worthF as xs = _
    rw [worthF_eq as xs]
    rfl
def FormB (as xs : List Int) : Prop := as.length ≤ 1000 ∧ xs.length ≤ 1000 ∧ (∀ a ∈ as, a.natAbs < 2 ^ 4000) ∧ ∀ x ∈ xs, x.natAbs < 2 ^ 4000
local macro_rules | `(tactic| walk_at "d1") => `(tactic| try simp only [dSeq, dSkip, dPass, dRet, dRetN, dDrop, dCond, dAsg, gNm, gTp, dOwn, dOwnL, dPar, dAug, dApp, dExt, dFrz, dFor, dLc, dBreak, dCont, dVar, dC, dOp, dT, dIsi, dNeg, dNot, dTNot, dAnd, dOr, dTAnd, dTOr, dIf, dCh, dNil, dCons, dTup, dLst, dIxO, dB, dCall, dCallW, dItems, dRng1, dRng2, dYes, fnE, startE, startW, startS, dLenO, dLenS, dIxS, dSl, dPt, dNo, wipeE, addD_int, addD_str, addD_tup, addD_lst, subD_int, mulD_int, mulD_tup, mulD_lst, fdivD_int, modD_int, powD_int, shlD_int, shrD_int, andD_int, ltD_int, leD_int, gtD_int, geD_int, eqD_ap, neD_ap, isD_ap, isNotD_ap, isNon_none, isNon_int, isNon_bool, isNon_str, isNon_tup, isNon_lst, isInt_none, isInt_int, isInt_bool, isInt_str, isInt_tup, isInt_lst, isBool_none, isBool_int, isBool_bool, isBool_str, isBool_tup, isBool_lst, isStr_none, isStr_int, isStr_bool, isStr_str, isStr_tup, isStr_lst, isTup_none, isTup_int, isTup_bool, isTup_str, isTup_tup, isTup_lst, isLst_lst, Cnd_true, Cnd_false, Cnd_not, Cnd_dec, asB_bool, forall_const, true_implies, false_implies, implies_true, decide_true, decide_false, Classical.not_not, negD_int, notD_bool, onVal_val, onOwn_own, onDic_dic, onScr_scr, onWv_wv, onInt_int, onTup_tup, onLst_lst, onItems_lst, onItems_tup, frz1_own, frz1_val, frz1_un, ixD_lst, ixD_tup, ixL_int, optD_some, optI_some, absD_int, intD_int, intD_bool, lenD_lst, lenD_tup, lenD_str, tupleD_lst, tupleD_tup, listD_lst, listD_tup, min2D_int, max2D_int, sumD_ints, allD_bls, anyD_bls, slD_lst, slD_tup, slD_str, gNl_nil, gCs_cons, par2_two, seq1_lst, seq1_tup, rng1D_int, rng2D_int, gt_z, gt_s, sp_next_int, set_z, set_s, List.map_cons, List.map_nil, List.length_cons, List.length_nil, List.cons_append, List.nil_append, List.replicate, Nat.reduceAdd, Nat.reduceSub, Nat.zero_add, shaped_int, shaped_bool, shaped_none, shaped_listI, shaped_tupI, shaped_nilL, shaped_nilT, eqv_int, eqv_bool, eqv_str, eqv_none, eqv_list_nil, List.isEmpty_nil, List.isEmpty_cons, Bool.true_eq_false, Bool.false_eq_true, decide_eq_true_eq, and_self, true_and, and_true, not_dec, Bool.not_eq_true', decide_eq_false_iff_not, atI_0, atI_1, atI_2, ite_true, ite_false, if_true, if_false, reduceIte, Bool.not_true, Bool.not_false, not_true_eq_false, not_false_eq_true, List.set_cons_zero, List.set_cons_succ, dPar3, dRev, par3_three, sortedD_ints, revD_tup, two_nat, one_nat, three_nat, dCh3, dOwnC, dPutPar, putPar_two, dZip2, zip2D_lst, zip2D_tup, dPut, isBD_bl, isNotBD_bl, dNewO, dPutO, dSortedO, putKD_int, dPar3O, dParO2, par3O_two, parO2_one, minLD_lst, dKeysW, rdPairs_nil, rdPairs_cons, onPair_ii, inTD_lst, gTl, dAugS, dZip3, zip3D_tup, zip3L_cons, zip3L_nil, revD_lst])
local macro_rules | `(tactic| walk_at "dd") => `(tactic| (walk_at "d1"; repeat (with_reducible (refine then_intro ?_); walk_at "d1")))
def rd_worth : DTS :=
  (dRet (dB sumD (dCons (dLc true (dZip2 (dCons (dVar 0) (dCons (dVar 1) dNil))) (gTp 2 (gCs (gNm 2) (gCs (gNm 3) gNl))) dYes (dOp mulD (dOp mulD (dVar 2) (dVar 3)) (dVar 3)) [2, 3]) dNil)))
def sp_worth : Lay.Spec := fun ds R => match ds with
  | [.tuple fs, .tuple es] => ∃ as xs : List Int, fs = as.map .int ∧ es = xs.map .int ∧ FormB as xs ∧ R (.int (worthF as xs))
  | _ => False
theorem zip_ints (as xs : List Int) : zipD (as.map .int) (xs.map .int) = (as.zip xs).map fun p => .tuple [.int p.1, .int p.2] := by
  unfold zipD
  induction as generalizing xs with
  | nil => rfl
  | cons a as ih =>
    cases xs with
    | nil => rfl
    | cons x xs =>
      rw [List.map_cons, List.map_cons, List.zipWith_cons_cons, List.zip_cons_cons, List.map_cons, ih]
theorem ok_worth : ∀ ds R, sp_worth ds R → rd_worth (fnE R) (startE 4 ds) := by
  intro ds R h
  unfold sp_worth at h
  split at h
  · obtain ⟨as, xs, rfl, rfl, ⟨ha, hx, ab, xb⟩, h⟩ := h
    unfold rd_worth
    walk_at "dd"
    rw [zip_ints]
    refine lc_map (fun p : Int × Int => .tuple [.int p.1, .int p.2]) .int (fun p => some (p.1 * p.2 * p.2)) (fun z => nomatch z) (fun p hp P hP => ?_) ?_
    · have h1 := ab _ (List.of_mem_zip hp).1
      have h2 := xb _ (List.of_mem_zip hp).2
      walk_at "dd"
      exact ⟨mulOk h1 h2 (by decide), mulOk (bits_mul h1 h2) h2 (by decide), hP⟩
    · rw [List.filterMap_eq_map']
      walk_at "dd"
      have e : ((as.zip xs).map fun p => p.1 * p.2 * p.2).sum = worthF as xs := by
        rw [worthF_eq]
        congr 1
        rw [List.zip, List.map_zipWith]
      rw [e]
      exact h
  · exact h.elim
local macro_rules | `(tactic| walk_at "d1") => `(tactic| try simp only [dSeq, dSkip, dPass, dRet, dRetN, dDrop, dCond, dAsg, gNm, gTp, dOwn, dOwnL, dPar, dAug, dApp, dExt, dFrz, dFor, dLc, dBreak, dCont, dVar, dC, dOp, dT, dIsi, dNeg, dNot, dTNot, dAnd, dOr, dTAnd, dTOr, dIf, dCh, dNil, dCons, dTup, dLst, dIxO, dB, dCall, dCallW, dItems, dRng1, dRng2, dYes, fnE, startE, startW, startS, dLenO, dLenS, dIxS, dSl, dPt, dNo, wipeE, addD_int, addD_str, addD_tup, addD_lst, subD_int, mulD_int, mulD_tup, mulD_lst, fdivD_int, modD_int, powD_int, shlD_int, shrD_int, andD_int, ltD_int, leD_int, gtD_int, geD_int, eqD_ap, neD_ap, isD_ap, isNotD_ap, isNon_none, isNon_int, isNon_bool, isNon_str, isNon_tup, isNon_lst, isInt_none, isInt_int, isInt_bool, isInt_str, isInt_tup, isInt_lst, isBool_none, isBool_int, isBool_bool, isBool_str, isBool_tup, isBool_lst, isStr_none, isStr_int, isStr_bool, isStr_str, isStr_tup, isStr_lst, isTup_none, isTup_int, isTup_bool, isTup_str, isTup_tup, isTup_lst, isLst_lst, Cnd_true, Cnd_false, Cnd_not, Cnd_dec, asB_bool, forall_const, true_implies, false_implies, implies_true, decide_true, decide_false, Classical.not_not, negD_int, notD_bool, onVal_val, onOwn_own, onDic_dic, onScr_scr, onWv_wv, onInt_int, onTup_tup, onLst_lst, onItems_lst, onItems_tup, frz1_own, frz1_val, frz1_un, ixD_lst, ixD_tup, ixL_int, optD_some, optI_some, absD_int, intD_int, intD_bool, lenD_lst, lenD_tup, lenD_str, tupleD_lst, tupleD_tup, listD_lst, listD_tup, min2D_int, max2D_int, sumD_ints, allD_bls, anyD_bls, slD_lst, slD_tup, slD_str, gNl_nil, gCs_cons, par2_two, seq1_lst, seq1_tup, rng1D_int, rng2D_int, gt_z, gt_s, sp_next_int, set_z, set_s, List.map_cons, List.map_nil, List.length_cons, List.length_nil, List.cons_append, List.nil_append, List.replicate, Nat.reduceAdd, Nat.reduceSub, Nat.zero_add, shaped_int, shaped_bool, shaped_none, shaped_listI, shaped_tupI, shaped_nilL, shaped_nilT, eqv_int, eqv_bool, eqv_str, eqv_none, eqv_list_nil, List.isEmpty_nil, List.isEmpty_cons, Bool.true_eq_false, Bool.false_eq_true, decide_eq_true_eq, and_self, true_and, and_true, not_dec, Bool.not_eq_true', decide_eq_false_iff_not, atI_0, atI_1, atI_2, ite_true, ite_false, if_true, if_false, reduceIte, Bool.not_true, Bool.not_false, not_true_eq_false, not_false_eq_true, List.set_cons_zero, List.set_cons_succ, dPar3, dRev, par3_three, sortedD_ints, revD_tup, two_nat, one_nat, three_nat, dCh3, dOwnC, dPutPar, putPar_two, dZip2, zip2D_lst, zip2D_tup, dPut, isBD_bl, isNotBD_bl, dNewO, dPutO, dSortedO, putKD_int, dPar3O, dParO2, par3O_two, parO2_one, minLD_lst, dKeysW, rdPairs_nil, rdPairs_cons, onPair_ii, inTD_lst, gTl, dAugS, dZip3, zip3D_tup, zip3L_cons, zip3L_nil, revD_lst])
local macro_rules | `(tactic| walk_at "dd") => `(tactic| (walk_at "d1"; repeat (with_reducible (refine then_intro ?_); walk_at "d1")))
def rd_between : DTS :=
  (dRet (dB sumD (dCons (dLc true (dZip3 (dCons (dVar 0) (dCons (dVar 1) (dCons (dVar 2) dNil)))) (gTp 3 (gCs (gNm 3) (gCs (gNm 4) (gCs (gNm 5) gNl)))) dYes (dOp mulD (dOp mulD (dVar 3) (dVar 4)) (dVar 5)) [3, 4, 5]) dNil)))
def sp_between : Lay.Spec := fun ds R => match ds with
  | [.tuple [.int a, .int b, .int c], .tuple [.int x, .int y, .int z], .tuple [.int u, .int v, .int w]] => ((a.natAbs < 2 ^ 40 ∧ b.natAbs < 2 ^ 40 ∧ c.natAbs < 2 ^ 40) ∧ (x.natAbs < 2 ^ 40 ∧ y.natAbs < 2 ^ 40 ∧ z.natAbs < 2 ^ 40) ∧ (u.natAbs < 2 ^ 40 ∧ v.natAbs < 2 ^ 40 ∧ w.natAbs < 2 ^ 40)) ∧ R (.int (a * x * u + b * y * v + c * z * w))
  | _ => False
theorem spx_between {a b c x y z u v w : Int} {R : D → Prop} : sp_between [.tuple [.int a, .int b, .int c], .tuple [.int x, .int y, .int z], .tuple [.int u, .int v, .int w]] R = (((a.natAbs < 2 ^ 40 ∧ b.natAbs < 2 ^ 40 ∧ c.natAbs < 2 ^ 40) ∧ (x.natAbs < 2 ^ 40 ∧ y.natAbs < 2 ^ 40 ∧ z.natAbs < 2 ^ 40) ∧ (u.natAbs < 2 ^ 40 ∧ v.natAbs < 2 ^ 40 ∧ w.natAbs < 2 ^ 40)) ∧ R (.int (a * x * u + b * y * v + c * z * w))) := rfl
theorem ok_between : ∀ ds R, sp_between ds R → rd_between (fnE R) (startE 6 ds) := by
  intro ds R H
  unfold sp_between at H
  split at H
  · rename_i a b c x y z u v w
    obtain ⟨⟨⟨a1, a2, a3⟩, ⟨x1, x2, x3⟩, ⟨u1, u2, u3⟩⟩, H⟩ := H
    unfold rd_between
    walk_at "dd"
    refine lc_map (xs := [(a, x, u), (b, y, v), (c, z, w)]) (f := fun r : Int × Int × Int => .tuple [.int r.1, .int r.2.1, .int r.2.2]) (k := PyData.int) (p := fun r => some (r.1 * r.2.1 * r.2.2)) (fun w => nomatch w) (fun r hr P hP => ?_) ?_
    · have rb : r.1.natAbs < 2 ^ 40 ∧ r.2.1.natAbs < 2 ^ 40 ∧ r.2.2.natAbs < 2 ^ 40 := by
        simp only [List.mem_cons, List.not_mem_nil, or_false] at hr
        rcases hr with rfl | rfl | rfl
        · exact ⟨a1, x1, u1⟩
        · exact ⟨a2, x2, u2⟩
        · exact ⟨a3, x3, u3⟩
      walk_at "dd"
      exact ⟨mulOk rb.1 rb.2.1 (by decide), mulOk (bits_mul rb.1 rb.2.1) rb.2.2 (by decide), hP⟩
    · walk_at "dd"
      have e : ([(a, x, u), (b, y, v), (c, z, w)].filterMap fun r : Int × Int × Int => some (r.1 * r.2.1 * r.2.2)).sum = a * x * u + b * y * v + c * z * w := by
        show a * x * u + (b * y * v + (c * z * w + 0)) = _
        omega
      rw [e]
      exact H
  · exact H.elim
local macro_rules | `(tactic| walk_at "d1") => `(tactic| try simp only [dSeq, dSkip, dPass, dRet, dRetN, dDrop, dCond, dAsg, gNm, gTp, dOwn, dOwnL, dPar, dAug, dApp, dExt, dFrz, dFor, dLc, dBreak, dCont, dVar, dC, dOp, dT, dIsi, dNeg, dNot, dTNot, dAnd, dOr, dTAnd, dTOr, dIf, dCh, dNil, dCons, dTup, dLst, dIxO, dB, dCall, dCallW, dItems, dRng1, dRng2, dYes, fnE, startE, startW, startS, dLenO, dLenS, dIxS, dSl, dPt, dNo, wipeE, addD_int, addD_str, addD_tup, addD_lst, subD_int, mulD_int, mulD_tup, mulD_lst, fdivD_int, modD_int, powD_int, shlD_int, shrD_int, andD_int, ltD_int, leD_int, gtD_int, geD_int, eqD_ap, neD_ap, isD_ap, isNotD_ap, isNon_none, isNon_int, isNon_bool, isNon_str, isNon_tup, isNon_lst, isInt_none, isInt_int, isInt_bool, isInt_str, isInt_tup, isInt_lst, isBool_none, isBool_int, isBool_bool, isBool_str, isBool_tup, isBool_lst, isStr_none, isStr_int, isStr_bool, isStr_str, isStr_tup, isStr_lst, isTup_none, isTup_int, isTup_bool, isTup_str, isTup_tup, isTup_lst, isLst_lst, Cnd_true, Cnd_false, Cnd_not, Cnd_dec, asB_bool, forall_const, true_implies, false_implies, implies_true, decide_true, decide_false, Classical.not_not, negD_int, notD_bool, onVal_val, onOwn_own, onDic_dic, onScr_scr, onWv_wv, onInt_int, onTup_tup, onLst_lst, onItems_lst, onItems_tup, frz1_own, frz1_val, frz1_un, ixD_lst, ixD_tup, ixL_int, optD_some, optI_some, absD_int, intD_int, intD_bool, lenD_lst, lenD_tup, lenD_str, tupleD_lst, tupleD_tup, listD_lst, listD_tup, min2D_int, max2D_int, sumD_ints, allD_bls, anyD_bls, slD_lst, slD_tup, slD_str, gNl_nil, gCs_cons, par2_two, seq1_lst, seq1_tup, rng1D_int, rng2D_int, gt_z, gt_s, sp_next_int, set_z, set_s, List.map_cons, List.map_nil, List.length_cons, List.length_nil, List.cons_append, List.nil_append, List.replicate, Nat.reduceAdd, Nat.reduceSub, Nat.zero_add, shaped_int, shaped_bool, shaped_none, shaped_listI, shaped_tupI, shaped_nilL, shaped_nilT, eqv_int, eqv_bool, eqv_str, eqv_none, eqv_list_nil, List.isEmpty_nil, List.isEmpty_cons, Bool.true_eq_false, Bool.false_eq_true, decide_eq_true_eq, and_self, true_and, and_true, not_dec, Bool.not_eq_true', decide_eq_false_iff_not, atI_0, atI_1, atI_2, ite_true, ite_false, if_true, if_false, reduceIte, Bool.not_true, Bool.not_false, not_true_eq_false, not_false_eq_true, List.set_cons_zero, List.set_cons_succ, dPar3, dRev, par3_three, sortedD_ints, revD_tup, two_nat, one_nat, three_nat, dCh3, dOwnC, dPutPar, putPar_two, dZip2, zip2D_lst, zip2D_tup, dPut, isBD_bl, isNotBD_bl, dNewO, dPutO, dSortedO, putKD_int, dPar3O, dParO2, par3O_two, parO2_one, minLD_lst, dKeysW, rdPairs_nil, rdPairs_cons, onPair_ii, inTD_lst, gTl, dAugS, dZip3, zip3D_tup, zip3L_cons, zip3L_nil, revD_lst, spx_law_common_v2, spx_law_lone_t, spx_law_lone_l])
local macro_rules | `(tactic| walk_at "dd") => `(tactic| (walk_at "d1"; repeat (with_reducible (refine then_intro ?_); walk_at "d1")))
def rd_law_at : DTS :=
  (dRet (dCall sp_law_lone (dCons (dLc true (dItems (dVar 0)) (gTp 3 (gCs (gNm 3) (gCs (gNm 4) (gCs (gNm 5) gNl)))) dYes (dOp addD (dOp addD (dOp mulD (dOp mulD (dVar 3) (dVar 1)) (dVar 1)) (dOp mulD (dOp mulD (dVar 4) (dVar 1)) (dVar 2))) (dOp mulD (dOp mulD (dVar 5) (dVar 2)) (dVar 2))) [3, 4, 5]) dNil)))
def rowV (s t : Int) (r : Int × Int × Int) : Int := r.1 * s * s + r.2.1 * s * t + r.2.2 * t * t
def rowD (r : Int × Int × Int) : D := .tuple [.int r.1, .int r.2.1, .int r.2.2]
def RowB (r : Int × Int × Int) : Prop := r.1.natAbs < 2 ^ 40 ∧ r.2.1.natAbs < 2 ^ 40 ∧ r.2.2.natAbs < 2 ^ 40
def sp_law_at : Lay.Spec := fun ds R => match ds with
  | [.tuple [.tuple [.int f0, .int g0, .int h0], .tuple [.int f1, .int g1, .int h1], .tuple [.int f2, .int g2, .int h2]], .int s, .int t] => ((RowB (f0, g0, h0) ∧ RowB (f1, g1, h1) ∧ RowB (f2, g2, h2)) ∧ s.natAbs < 2 ^ 40 ∧ t.natAbs < 2 ^ 40) ∧ R (loneD (loneT (rowV s t (f0, g0, h0)) (rowV s t (f1, g1, h1)) (rowV s t (f2, g2, h2))))
  | _ => False
theorem row_bound {s t : Int} {r : Int × Int × Int} (h : RowB r) (hs : s.natAbs < 2 ^ 40) (ht : t.natAbs < 2 ^ 40) : (CMulW r.1 s ∧ CMulW (r.1 * s) s) ∧ (CMulW r.2.1 s ∧ CMulW (r.2.1 * s) t) ∧ (CMulW r.2.2 t ∧ CMulW (r.2.2 * t) t) ∧ (rowV s t r).natAbs < 2 ^ 200 := by
  obtain ⟨h1, h2, h3⟩ := h
  have b1 := bits_mul h1 hs
  have b2 := bits_mul h2 hs
  have b3 := bits_mul h3 ht
  have c1 := bits_mul b1 hs
  have c2 := bits_mul b2 ht
  have c3 := bits_mul b3 ht
  refine ⟨⟨mulOk h1 hs (by decide), mulOk b1 hs (by decide)⟩, ⟨mulOk h2 hs (by decide), mulOk b2 ht (by decide)⟩, ⟨mulOk h3 ht (by decide), mulOk b3 ht (by decide)⟩, ?_⟩
  have e : (2 : Nat) ^ (40 + 40 + 40) * 4 ≤ 2 ^ 200 := by decide
  unfold rowV
  omega
theorem ok_law_at : ∀ ds R, sp_law_at ds R → rd_law_at (fnE R) (startE 6 ds) := by
  intro ds R H
  unfold sp_law_at at H
  split at H
  · rename_i f0 g0 h0 f1 g1 h1 f2 g2 h2 s t
    obtain ⟨⟨⟨r0, r1, r2⟩, hs, ht⟩, H⟩ := H
    unfold rd_law_at
    walk_at "dd"
    refine lc_map (xs := [(f0, g0, h0), (f1, g1, h1), (f2, g2, h2)]) (f := rowD) (k := PyData.int) (p := fun r => some (rowV s t r)) (fun w => nomatch w) (fun r hr P hP => ?_) ?_
    · have rb : RowB r := by
        simp only [List.mem_cons, List.not_mem_nil, or_false] at hr
        rcases hr with rfl | rfl | rfl <;> assumption
      obtain ⟨⟨k1, k2⟩, ⟨k3, k4⟩, ⟨k5, k6⟩, _⟩ := row_bound rb hs ht
      unfold rowD
      walk_at "dd"
      exact ⟨k1, k2, k3, k4, k5, k6, hP⟩
    · have b0 := (row_bound r0 hs ht).2.2.2
      have b1 := (row_bound r1 hs ht).2.2.2
      have b2 := (row_bound r2 hs ht).2.2.2
      walk_at "dd"
      exact ⟨⟨b0, b1, b2⟩, H⟩
  · exact H.elim
local macro_rules | `(tactic| walk_at "d1") => `(tactic| try simp only [dSeq, dSkip, dPass, dRet, dRetN, dDrop, dCond, dAsg, gNm, gTp, dOwn, dOwnL, dPar, dAug, dApp, dExt, dFrz, dFor, dLc, dBreak, dCont, dVar, dC, dOp, dT, dIsi, dNeg, dNot, dTNot, dAnd, dOr, dTAnd, dTOr, dIf, dCh, dNil, dCons, dTup, dLst, dIxO, dB, dCall, dCallW, dItems, dRng1, dRng2, dYes, fnE, startE, startW, startS, dLenO, dLenS, dIxS, dSl, dPt, dNo, wipeE, addD_int, addD_str, addD_tup, addD_lst, subD_int, mulD_int, mulD_tup, mulD_lst, fdivD_int, modD_int, powD_int, shlD_int, shrD_int, andD_int, ltD_int, leD_int, gtD_int, geD_int, eqD_ap, neD_ap, isD_ap, isNotD_ap, isNon_none, isNon_int, isNon_bool, isNon_str, isNon_tup, isNon_lst, isInt_none, isInt_int, isInt_bool, isInt_str, isInt_tup, isInt_lst, isBool_none, isBool_int, isBool_bool, isBool_str, isBool_tup, isBool_lst, isStr_none, isStr_int, isStr_bool, isStr_str, isStr_tup, isStr_lst, isTup_none, isTup_int, isTup_bool, isTup_str, isTup_tup, isTup_lst, isLst_lst, Cnd_true, Cnd_false, Cnd_not, Cnd_dec, asB_bool, forall_const, true_implies, false_implies, implies_true, decide_true, decide_false, Classical.not_not, negD_int, notD_bool, onVal_val, onOwn_own, onDic_dic, onScr_scr, onWv_wv, onInt_int, onTup_tup, onLst_lst, onItems_lst, onItems_tup, frz1_own, frz1_val, frz1_un, ixD_lst, ixD_tup, ixL_int, optD_some, optI_some, absD_int, intD_int, intD_bool, lenD_lst, lenD_tup, lenD_str, tupleD_lst, tupleD_tup, listD_lst, listD_tup, min2D_int, max2D_int, sumD_ints, allD_bls, anyD_bls, slD_lst, slD_tup, slD_str, gNl_nil, gCs_cons, par2_two, seq1_lst, seq1_tup, rng1D_int, rng2D_int, gt_z, gt_s, sp_next_int, set_z, set_s, List.map_cons, List.map_nil, List.length_cons, List.length_nil, List.cons_append, List.nil_append, List.replicate, Nat.reduceAdd, Nat.reduceSub, Nat.zero_add, shaped_int, shaped_bool, shaped_none, shaped_listI, shaped_tupI, shaped_nilL, shaped_nilT, eqv_int, eqv_bool, eqv_str, eqv_none, eqv_list_nil, List.isEmpty_nil, List.isEmpty_cons, Bool.true_eq_false, Bool.false_eq_true, decide_eq_true_eq, and_self, true_and, and_true, not_dec, Bool.not_eq_true', decide_eq_false_iff_not, atI_0, atI_1, atI_2, ite_true, ite_false, if_true, if_false, reduceIte, Bool.not_true, Bool.not_false, not_true_eq_false, not_false_eq_true, List.set_cons_zero, List.set_cons_succ, dPar3, dRev, par3_three, sortedD_ints, revD_tup, two_nat, one_nat, three_nat, dCh3, dOwnC, dPutPar, putPar_two, dZip2, zip2D_lst, zip2D_tup, dPut, isBD_bl, isNotBD_bl, dNewO, dPutO, dSortedO, putKD_int, dPar3O, dParO2, par3O_two, parO2_one, minLD_lst, dKeysW, rdPairs_nil, rdPairs_cons, onPair_ii, inTD_lst, gTl, dAugS, dZip3, zip3D_tup, zip3L_cons, zip3L_nil, revD_lst, spx_between, spx_directions, spx_law_common_v2, spx_law_lone_t, spx_law_lone_l])
local macro_rules | `(tactic| walk_at "dd") => `(tactic| (walk_at "d1"; repeat (with_reducible (refine then_intro ?_); walk_at "d1")))
def rd_curve_of_b1 : DTS :=
  (dSeq (dAsg (dOp subD (dOp mulD (dVar 4) (dOp ixD (dVar 1) (dVar 10))) (dOp mulD (dVar 7) (dOp ixD (dVar 2) (dVar 10)))) (gNm 11)) (dSeq (dAsg (dOp subD (dOp subD (dOp mulD (dVar 5) (dOp ixD (dVar 1) (dVar 10))) (dOp mulD (dVar 7) (dOp ixD (dVar 3) (dVar 10)))) (dOp mulD (dVar 8) (dOp ixD (dVar 2) (dVar 10)))) (gNm 12)) (dApp 9 (dTup (dCons (dVar 11) (dCons (dVar 12) (dCons (dOp subD (dOp mulD (dVar 6) (dOp ixD (dVar 1) (dVar 10))) (dOp mulD (dVar 8) (dOp ixD (dVar 3) (dVar 10)))) dNil)))))))
def rd_curve_of_c1 : DTS :=
  (dSeq (dOwn 9 dNil) (dSeq (dFor (dRng1 (dCons (dC (.int 3)) dNil)) (gNm 10) rd_curve_of_b1) (dFrz 9 (dRet (dB tupleD (dCons (dVar 9) dNil))))))
def rd_curve_of : DTS :=
  (dSeq (dAsg (dCall sp_directions (dCons (dVar 1) dNil)) (gTl 2 (gCs (gNm 2) (gCs (gNm 3) gNl)))) (dSeq (dPar3 4 5 6 (dCons (dCall sp_worth (dCons (dVar 0) (dCons (dVar 2) dNil))) (dCons (dOp mulD (dC (.int 2)) (dCall sp_between (dCons (dVar 0) (dCons (dVar 2) (dCons (dVar 3) dNil))))) (dCons (dCall sp_worth (dCons (dVar 0) (dCons (dVar 3) dNil))) dNil)))) (dSeq (dPar 7 8 (dCons (dOp mulD (dC (.int 2)) (dCall sp_between (dCons (dVar 0) (dCons (dVar 1) (dCons (dVar 2) dNil))))) (dCons (dOp mulD (dC (.int 2)) (dCall sp_between (dCons (dVar 0) (dCons (dVar 1) (dCons (dVar 3) dNil))))) dNil))) rd_curve_of_c1)))
abbrev T3 := Int × Int × Int
def rowC (f g h m n z o w : Int) : T3 := (f * z - m * o, g * z - m * w - n * o, h * z - n * w)
def rowsC (f g h m n : Int) (z o w : T3) : List T3 := [rowC f g h m n z.1 o.1 w.1, rowC f g h m n z.2.1 o.2.1 w.2.1, rowC f g h m n z.2.2 o.2.2 w.2.2]
def curveR (a b c x y z : Int) : List T3 := if x ≠ 0 then rowsC b 0 c (2 * (b * y)) (2 * (c * z)) (x, y, z) (0, 1, 0) (0, 0, 1) else rowsC a 0 c (2 * (a * x)) (2 * (c * z)) (x, y, z) (1, 0, 0) (0, 0, 1)
def sp_curve_of : Lay.Spec := fun ds R => match ds with
  | [.tuple [.int a, .int b, .int c], .tuple [.int x, .int y, .int z]] => ((x ≠ 0 ∨ y ≠ 0) ∧ (a.natAbs < 2 ^ 12 ∧ b.natAbs < 2 ^ 12 ∧ c.natAbs < 2 ^ 12) ∧ (x.natAbs < 2 ^ 6 ∧ y.natAbs < 2 ^ 6 ∧ z.natAbs < 2 ^ 6)) ∧ R (.tuple ((curveR a b c x y z).map rowD))
  | _ => False
theorem spx_curve_of {a b c x y z : Int} {R : D → Prop} : sp_curve_of [.tuple [.int a, .int b, .int c], .tuple [.int x, .int y, .int z]] R = (((x ≠ 0 ∨ y ≠ 0) ∧ (a.natAbs < 2 ^ 12 ∧ b.natAbs < 2 ^ 12 ∧ c.natAbs < 2 ^ 12) ∧ (x.natAbs < 2 ^ 6 ∧ y.natAbs < 2 ^ 6 ∧ z.natAbs < 2 ^ 6)) ∧ R (.tuple ((curveR a b c x y z).map rowD))) := rfl
theorem worth3 {a b c x y z : Int} {R : D → Prop} (ha : a.natAbs < 2 ^ 12 ∧ b.natAbs < 2 ^ 12 ∧ c.natAbs < 2 ^ 12) (hx : x.natAbs < 2 ^ 12 ∧ y.natAbs < 2 ^ 12 ∧ z.natAbs < 2 ^ 12) (h : R (.int (a * x * x + b * y * y + c * z * z))) : sp_worth [.tuple [.int a, .int b, .int c], .tuple [.int x, .int y, .int z]] R := by
  have p : 2 ^ 12 ≤ 2 ^ 4000 := Nat.pow_le_pow_right (by decide) (by decide)
  refine ⟨[a, b, c], [x, y, z], rfl, rfl, ⟨(by decide : 3 ≤ 1000), (by decide : 3 ≤ 1000), fun n hn => ?_, fun n hn => ?_⟩, ?_⟩
  · simp only [List.mem_cons, List.not_mem_nil, or_false] at hn
    rcases hn with rfl | rfl | rfl
    · exact Nat.lt_of_lt_of_le ha.1 p
    · exact Nat.lt_of_lt_of_le ha.2.1 p
    · exact Nat.lt_of_lt_of_le ha.2.2 p
  · simp only [List.mem_cons, List.not_mem_nil, or_false] at hn
    rcases hn with rfl | rfl | rfl
    · exact Nat.lt_of_lt_of_le hx.1 p
    · exact Nat.lt_of_lt_of_le hx.2.1 p
    · exact Nat.lt_of_lt_of_le hx.2.2 p
  · have e : worthF [a, b, c] [x, y, z] = a * x * x + b * y * y + c * z * z := by
      show a * x * x + (b * y * y + (c * z * z + 0)) = _
      omega
    rw [e]
    exact h
theorem ok_curve_of : ∀ ds R, sp_curve_of ds R → rd_curve_of (fnE R) (startE 13 ds) := by
  intro ds R H
  unfold sp_curve_of at H
  split at H
  · rename_i a b c x y z
    obtain ⟨⟨nz, ⟨ba, bb, bc⟩, ⟨bx, by', bz⟩⟩, H⟩ := H
    have p40 : 2 ^ 12 ≤ 2 ^ 40 := by decide
    have p6 : 2 ^ 6 ≤ 2 ^ 40 := by decide
    have q1 : (1 : Int).natAbs < 2 ^ 12 := by decide
    have q0 : (0 : Int).natAbs < 2 ^ 12 := by decide
    -- the loop
    have loop : ∀ (f g h m n : Int) (o w : T3), f.natAbs < 2 ^ 30 → g.natAbs < 2 ^ 30 → h.natAbs < 2 ^ 30 → m.natAbs < 2 ^ 30 → n.natAbs < 2 ^ 30 → (o.1.natAbs < 2 ∧ o.2.1.natAbs < 2 ∧ o.2.2.natAbs < 2) → (w.1.natAbs < 2 ∧ w.2.1.natAbs < 2 ∧ w.2.2.natAbs < 2) → R (.tuple ((rowsC f g h m n (x, y, z) o w).map rowD)) →
        rd_curve_of_c1 (fnE R) [.val (.tuple [.int a, .int b, .int c]), .val (.tuple [.int x, .int y, .int z]), .val (rowD o), .val (rowD w), .val (.int f), .val (.int g), .val (.int h), .val (.int m), .val (.int n), .un, .un, .un, .un] := by
      intro f g h m n o w bf bg bh bm bn bo bw HR
      obtain ⟨o1, o2, o3⟩ := o
      obtain ⟨w1, w2, w3⟩ := w
      obtain ⟨bo1, bo2, bo3⟩ := bo
      obtain ⟨bw1, bw2, bw3⟩ := bw
      have bo1 : o1.natAbs < 2 := bo1
      have bo2 : o2.natAbs < 2 := bo2
      have bo3 : o3.natAbs < 2 := bo3
      have bw1 : w1.natAbs < 2 := bw1
      have bw2 : w2.natAbs < 2 := bw2
      have bw3 : w3.natAbs < 2 := bw3
      have k : ∀ {p q : Int}, p.natAbs < 2 ^ 30 → q.natAbs < 2 ^ 6 → CMulW p q := fun h1 h2 => mulOk h1 h2 (by decide)
      have s6 : ∀ {q : Int}, q.natAbs < 2 → q.natAbs < 2 ^ 6 := fun h => Nat.lt_of_lt_of_le h (by decide)
      unfold rd_curve_of_c1 rowD
      walk_at "dd"
      refine ⟨by decide, ?_⟩
      rw [range3]
      refine for_by (fun (s : List D × Sl × Sl × Sl) => [.val (.tuple [.int a, .int b, .int c]), .val (.tuple [.int x, .int y, .int z]), .val (.tuple [.int o1, .int o2, .int o3]), .val (.tuple [.int w1, .int w2, .int w3]), .val (.int f), .val (.int g), .val (.int h), .val (.int m), .val (.int n), .own s.1, s.2.1, s.2.2.1, s.2.2.2]) (fun i s => s.1 = ((rowsC f g h m n (x, y, z) (o1, o2, o3) (w1, w2, w3)).map rowD).take i) ([], .un, .un, .un) rfl rfl ?_ ?_
      · rintro i e he ⟨own, u1, u2, u3⟩ hi bk
        simp only at hi
        subst hi
        unfold rd_curve_of_b1
        match i, he with
        | 0, he =>
          cases he
          walk_at "dd"
          refine ⟨k bf bx, k bm (s6 bo1), then_intro ?_⟩
          walk_at "dd"
          refine ⟨k bg bx, k bm (s6 bw1), k bn (s6 bo1), then_intro ?_⟩
          walk_at "dd"
          exact ⟨k bh bx, k bn (s6 bw1), by unfold rowsC; show 0 < sizeLine; decide, ⟨(_, _, _, _), rfl, rfl⟩⟩
        | 1, he =>
          cases he
          walk_at "dd"
          refine ⟨k bf by', k bm (s6 bo2), then_intro ?_⟩
          walk_at "dd"
          refine ⟨k bg by', k bm (s6 bw2), k bn (s6 bo2), then_intro ?_⟩
          walk_at "dd"
          exact ⟨k bh by', k bn (s6 bw2), by unfold rowsC; show 1 < sizeLine; decide, ⟨(_, _, _, _), rfl, rfl⟩⟩
        | 2, he =>
          cases he
          walk_at "dd"
          refine ⟨k bf bz, k bm (s6 bo3), then_intro ?_⟩
          walk_at "dd"
          refine ⟨k bg bz, k bm (s6 bw3), k bn (s6 bo3), then_intro ?_⟩
          walk_at "dd"
          exact ⟨k bh bz, k bn (s6 bw3), by unfold rowsC; show 2 < sizeLine; decide, ⟨(_, _, _, _), rfl, rfl⟩⟩
        | i + 3, he => cases he
      · rintro ⟨own, u1, u2, u3⟩ hi
        simp only at hi
        subst hi
        walk_at "dd"
        exact HR
    unfold rd_curve_of
    walk_at "dd"
    refine ⟨nz, fun x0 => ?_, fun x0 => ?_⟩
    · refine then_intro ?_
      have e1 : vD 0 1 0 = .tuple [.int 0, .int 1, .int 0] := rfl
      have e2 : vD 0 0 1 = .tuple [.int 0, .int 0, .int 1] := rfl
      rw [e1, e2]
      walk_at "dd"
      refine worth3 ⟨ba, bb, bc⟩ ⟨by decide, by decide, by decide⟩ ?_
      refine ⟨⟨⟨by omega, by omega, by omega⟩, by decide, by decide⟩, ?_⟩
      rw [show a * 0 * 0 + b * 1 * 0 + c * 0 * 1 = 0 by omega, show a * 0 * 0 + b * 1 * 1 + c * 0 * 0 = b by omega]
      refine ⟨mulOk (n := 12) (m := 12) (by decide) (by decide) (by decide), ?_⟩
      refine worth3 ⟨ba, bb, bc⟩ ⟨by decide, by decide, by decide⟩ ?_
      rw [show a * 0 * 0 + b * 0 * 0 + c * 1 * 1 = c by omega, show (2 : Int) * 0 = 0 by rfl]
      refine then_intro ?_
      walk_at "dd"
      have B : ((a.natAbs < 2 ^ 40 ∧ b.natAbs < 2 ^ 40 ∧ c.natAbs < 2 ^ 40) ∧ (x.natAbs < 2 ^ 40 ∧ y.natAbs < 2 ^ 40 ∧ z.natAbs < 2 ^ 40)) := ⟨⟨by omega, by omega, by omega⟩, by omega, by omega, by omega⟩
      rw [show a * x * 0 + b * y * 1 + c * z * 0 = b * y by omega, show a * x * 0 + b * y * 0 + c * z * 1 = c * z by omega]
      have m1 := bits_mul bb by'
      have m2 := bits_mul bc bz
      have two : (2 : Int).natAbs < 2 ^ 2 := by decide
      refine ⟨⟨B.1, B.2, by decide⟩, mulOk two m1 (by decide), ⟨B.1, B.2, by decide⟩, mulOk two m2 (by decide), then_intro ?_⟩
      have m3 := bits_mul two m1
      have m4 := bits_mul two m2
      have big : 2 ^ (2 + (12 + 6)) ≤ 2 ^ 30 := by decide
      refine loop b 0 c (2 * (b * y)) (2 * (c * z)) (0, 1, 0) (0, 0, 1) (by omega) (by decide) (by omega) (by omega) (by omega) ⟨by decide, by decide, by decide⟩ ⟨by decide, by decide, by decide⟩ ?_
      unfold curveR at H
      rw [if_pos x0] at H
      exact H
    · refine then_intro ?_
      have e1 : vD 1 0 0 = .tuple [.int 1, .int 0, .int 0] := rfl
      have e2 : vD 0 0 1 = .tuple [.int 0, .int 0, .int 1] := rfl
      rw [e1, e2]
      walk_at "dd"
      refine worth3 ⟨ba, bb, bc⟩ ⟨by decide, by decide, by decide⟩ ?_
      refine ⟨⟨⟨by omega, by omega, by omega⟩, by decide, by decide⟩, ?_⟩
      rw [show a * 1 * 0 + b * 0 * 0 + c * 0 * 1 = 0 by omega, show a * 1 * 1 + b * 0 * 0 + c * 0 * 0 = a by omega]
      refine ⟨mulOk (n := 12) (m := 12) (by decide) (by decide) (by decide), ?_⟩
      refine worth3 ⟨ba, bb, bc⟩ ⟨by decide, by decide, by decide⟩ ?_
      rw [show a * 0 * 0 + b * 0 * 0 + c * 1 * 1 = c by omega, show (2 : Int) * 0 = 0 by rfl]
      refine then_intro ?_
      walk_at "dd"
      have B : ((a.natAbs < 2 ^ 40 ∧ b.natAbs < 2 ^ 40 ∧ c.natAbs < 2 ^ 40) ∧ (x.natAbs < 2 ^ 40 ∧ y.natAbs < 2 ^ 40 ∧ z.natAbs < 2 ^ 40)) := ⟨⟨by omega, by omega, by omega⟩, by omega, by omega, by omega⟩
      rw [show a * x * 1 + b * y * 0 + c * z * 0 = a * x by omega, show a * x * 0 + b * y * 0 + c * z * 1 = c * z by omega]
      have m1 := bits_mul ba bx
      have m2 := bits_mul bc bz
      have two : (2 : Int).natAbs < 2 ^ 2 := by decide
      refine ⟨⟨B.1, B.2, by decide⟩, mulOk two m1 (by decide), ⟨B.1, B.2, by decide⟩, mulOk two m2 (by decide), then_intro ?_⟩
      have m3 := bits_mul two m1
      have m4 := bits_mul two m2
      have big : 2 ^ (2 + (12 + 6)) ≤ 2 ^ 30 := by decide
      refine loop a 0 c (2 * (a * x)) (2 * (c * z)) (1, 0, 0) (0, 0, 1) (by omega) (by decide) (by omega) (by omega) (by omega) ⟨by decide, by decide, by decide⟩ ⟨by decide, by decide, by decide⟩ ?_
      unfold curveR at H
      rw [if_neg (fun w => w x0)] at H
      exact H
  · exact H.elim
local macro_rules | `(tactic| walk_at "d1") => `(tactic| try simp only [dSeq, dSkip, dPass, dRet, dRetN, dDrop, dCond, dAsg, gNm, gTp, dOwn, dOwnL, dPar, dAug, dApp, dExt, dFrz, dFor, dLc, dBreak, dCont, dVar, dC, dOp, dT, dIsi, dNeg, dNot, dTNot, dAnd, dOr, dTAnd, dTOr, dIf, dCh, dNil, dCons, dTup, dLst, dIxO, dB, dCall, dCallW, dItems, dRng1, dRng2, dYes, fnE, startE, startW, startS, dLenO, dLenS, dIxS, dSl, dPt, dNo, wipeE, addD_int, addD_str, addD_tup, addD_lst, subD_int, mulD_int, mulD_tup, mulD_lst, fdivD_int, modD_int, powD_int, shlD_int, shrD_int, andD_int, ltD_int, leD_int, gtD_int, geD_int, eqD_ap, neD_ap, isD_ap, isNotD_ap, isNon_none, isNon_int, isNon_bool, isNon_str, isNon_tup, isNon_lst, isInt_none, isInt_int, isInt_bool, isInt_str, isInt_tup, isInt_lst, isBool_none, isBool_int, isBool_bool, isBool_str, isBool_tup, isBool_lst, isStr_none, isStr_int, isStr_bool, isStr_str, isStr_tup, isStr_lst, isTup_none, isTup_int, isTup_bool, isTup_str, isTup_tup, isTup_lst, isLst_lst, Cnd_true, Cnd_false, Cnd_not, Cnd_dec, asB_bool, forall_const, true_implies, false_implies, implies_true, decide_true, decide_false, Classical.not_not, negD_int, notD_bool, onVal_val, onOwn_own, onDic_dic, onScr_scr, onWv_wv, onInt_int, onTup_tup, onLst_lst, onItems_lst, onItems_tup, frz1_own, frz1_val, frz1_un, ixD_lst, ixD_tup, ixL_int, optD_some, optI_some, absD_int, intD_int, intD_bool, lenD_lst, lenD_tup, lenD_str, tupleD_lst, tupleD_tup, listD_lst, listD_tup, min2D_int, max2D_int, sumD_ints, allD_bls, anyD_bls, slD_lst, slD_tup, slD_str, gNl_nil, gCs_cons, par2_two, seq1_lst, seq1_tup, rng1D_int, rng2D_int, gt_z, gt_s, sp_next_int, set_z, set_s, List.map_cons, List.map_nil, List.length_cons, List.length_nil, List.cons_append, List.nil_append, List.replicate, Nat.reduceAdd, Nat.reduceSub, Nat.zero_add, shaped_int, shaped_bool, shaped_none, shaped_listI, shaped_tupI, shaped_nilL, shaped_nilT, eqv_int, eqv_bool, eqv_str, eqv_none, eqv_list_nil, List.isEmpty_nil, List.isEmpty_cons, Bool.true_eq_false, Bool.false_eq_true, decide_eq_true_eq, and_self, true_and, and_true, not_dec, Bool.not_eq_true', decide_eq_false_iff_not, atI_0, atI_1, atI_2, ite_true, ite_false, if_true, if_false, reduceIte, Bool.not_true, Bool.not_false, not_true_eq_false, not_false_eq_true, List.set_cons_zero, List.set_cons_succ, dPar3, dRev, par3_three, sortedD_ints, revD_tup, two_nat, one_nat, three_nat, dCh3, dOwnC, dPutPar, putPar_two, dZip2, zip2D_lst, zip2D_tup, dPut, isBD_bl, isNotBD_bl, dNewO, dPutO, dSortedO, putKD_int, dPar3O, dParO2, par3O_two, parO2_one, minLD_lst, dKeysW, rdPairs_nil, rdPairs_cons, onPair_ii, inTD_lst, gTl, dAugS, dZip3, zip3D_tup, zip3L_cons, zip3L_nil, revD_lst])
local macro_rules | `(tactic| walk_at "dd") => `(tactic| (walk_at "d1"; repeat (with_reducible (refine then_intro ?_); walk_at "d1")))
def rd_common_b1 : DTS :=
  (dPar 0 1 (dCons (dVar 1) (dCons (dOp modD (dVar 0) (dVar 1)) dNil)))
def rd_common : DTS :=
  (dSeq (dPar 0 1 (dCons (dB absD (dCons (dVar 0) dNil)) (dCons (dB absD (dCons (dVar 1) dNil)) dNil))) (dSeq (dWhile (dT (dOp gtD (dVar 1) (dC (.int 0)))) rd_common_b1) (dRet (dVar 0))))
def sp_common : Lay.Spec := fun ds R => match ds with | [.int a, .int b] => R (.int (Int.gcd a b : Nat)) | _ => False
theorem ok_common : ∀ ds R, sp_common ds R → rd_common (fnE R) (startE 2 ds) := by
  intro ds R h
  unfold sp_common at h
  split at h
  · rename_i a b
    unfold rd_common
    walk_at "dd"
    refine while_by (fun (s : Nat × Nat) => [.val (.int s.1), .val (.int s.2)]) (fun s => Nat.gcd s.1 s.2 = Int.gcd a b) (fun s => s.2) (a.natAbs, b.natAbs) rfl rfl ?_
    rintro ⟨x, y⟩ hg bk
    walk_at "dd"
    refine ⟨fun hy => ?_, fun hy => ?_⟩
    · have hy' : 0 < y := by omega
      unfold rd_common_b1
      walk_at "dd"
      refine ⟨by omega, (y, x % y), ?_, ?_, Nat.mod_lt _ hy'⟩
      · rw [Int.fmod_eq_emod_of_nonneg _ (by omega)]
        rfl
      · show Nat.gcd y (x % y) = _
        rw [← hg, Nat.gcd_comm y, ← Nat.gcd_rec, Nat.gcd_comm]
    · have : y = 0 := by omega
      subst this
      rw [show x = Int.gcd a b by rw [← hg]; exact (Nat.gcd_zero_right x).symm]
      exact h
  · exact h.elim
theorem spx_common {a b : Int} {R : D → Prop} : sp_common [.int a, .int b] R = R (.int (Int.gcd a b : Nat)) := rfl
local macro_rules | `(tactic| walk_at "d1") => `(tactic| try simp only [dSeq, dSkip, dPass, dRet, dRetN, dDrop, dCond, dAsg, gNm, gTp, dOwn, dOwnL, dPar, dAug, dApp, dExt, dFrz, dFor, dLc, dBreak, dCont, dVar, dC, dOp, dT, dIsi, dNeg, dNot, dTNot, dAnd, dOr, dTAnd, dTOr, dIf, dCh, dNil, dCons, dTup, dLst, dIxO, dB, dCall, dCallW, dItems, dRng1, dRng2, dYes, fnE, startE, startW, startS, dLenO, dLenS, dIxS, dSl, dPt, dNo, wipeE, addD_int, addD_str, addD_tup, addD_lst, subD_int, mulD_int, mulD_tup, mulD_lst, fdivD_int, modD_int, powD_int, shlD_int, shrD_int, andD_int, ltD_int, leD_int, gtD_int, geD_int, eqD_ap, neD_ap, isD_ap, isNotD_ap, isNon_none, isNon_int, isNon_bool, isNon_str, isNon_tup, isNon_lst, isInt_none, isInt_int, isInt_bool, isInt_str, isInt_tup, isInt_lst, isBool_none, isBool_int, isBool_bool, isBool_str, isBool_tup, isBool_lst, isStr_none, isStr_int, isStr_bool, isStr_str, isStr_tup, isStr_lst, isTup_none, isTup_int, isTup_bool, isTup_str, isTup_tup, isTup_lst, isLst_lst, Cnd_true, Cnd_false, Cnd_not, Cnd_dec, asB_bool, forall_const, true_implies, false_implies, implies_true, decide_true, decide_false, Classical.not_not, negD_int, notD_bool, onVal_val, onOwn_own, onDic_dic, onScr_scr, onWv_wv, onInt_int, onTup_tup, onLst_lst, onItems_lst, onItems_tup, frz1_own, frz1_val, frz1_un, ixD_lst, ixD_tup, ixL_int, optD_some, optI_some, absD_int, intD_int, intD_bool, lenD_lst, lenD_tup, lenD_str, tupleD_lst, tupleD_tup, listD_lst, listD_tup, min2D_int, max2D_int, sumD_ints, allD_bls, anyD_bls, slD_lst, slD_tup, slD_str, gNl_nil, gCs_cons, par2_two, seq1_lst, seq1_tup, rng1D_int, rng2D_int, gt_z, gt_s, sp_next_int, set_z, set_s, List.map_cons, List.map_nil, List.length_cons, List.length_nil, List.cons_append, List.nil_append, List.replicate, Nat.reduceAdd, Nat.reduceSub, Nat.zero_add, shaped_int, shaped_bool, shaped_none, shaped_listI, shaped_tupI, shaped_nilL, shaped_nilT, eqv_int, eqv_bool, eqv_str, eqv_none, eqv_list_nil, List.isEmpty_nil, List.isEmpty_cons, Bool.true_eq_false, Bool.false_eq_true, decide_eq_true_eq, and_self, true_and, and_true, not_dec, Bool.not_eq_true', decide_eq_false_iff_not, atI_0, atI_1, atI_2, ite_true, ite_false, if_true, if_false, reduceIte, Bool.not_true, Bool.not_false, not_true_eq_false, not_false_eq_true, List.set_cons_zero, List.set_cons_succ, dPar3, dRev, par3_three, sortedD_ints, revD_tup, two_nat, one_nat, three_nat, dCh3, dOwnC, dPutPar, putPar_two, dZip2, zip2D_lst, zip2D_tup, dPut, isBD_bl, isNotBD_bl, dNewO, dPutO, dSortedO, putKD_int, dPar3O, dParO2, par3O_two, parO2_one, minLD_lst, dKeysW, rdPairs_nil, rdPairs_cons, onPair_ii, inTD_lst, gTl, dAugS, dZip3, zip3D_tup, zip3L_cons, zip3L_nil, revD_lst, spx_law_common_v2, spx_law_lone_t, spx_law_lone_l])
local macro_rules | `(tactic| walk_at "dd") => `(tactic| (walk_at "d1"; repeat (with_reducible (refine then_intro ?_); walk_at "d1")))
def rd_law_is_flat_b1 : DTS :=
  (dAugS 2 (dOp addD (dVar 4) (dVar 5)) (dOp mulD (dOp mulD (dOp ixD (dVar 0) (dVar 3)) (dOp ixD (dOp ixD (dVar 1) (dVar 3)) (dVar 4))) (dOp ixD (dOp ixD (dVar 1) (dVar 3)) (dVar 5))))
def rd_law_is_flat_b2 : DTS :=
  (dFor (dRng1 (dCons (dC (.int 3)) dNil)) (gNm 5) rd_law_is_flat_b1)
def rd_law_is_flat_b3 : DTS :=
  (dFor (dRng1 (dCons (dC (.int 3)) dNil)) (gNm 4) rd_law_is_flat_b2)
def rd_law_is_flat : DTS :=
  (dSeq (dOwn 2 (dCons (dC (.int 0)) (dCons (dC (.int 0)) (dCons (dC (.int 0)) (dCons (dC (.int 0)) (dCons (dC (.int 0)) dNil)))))) (dSeq (dFor (dRng1 (dCons (dC (.int 3)) dNil)) (gNm 3) rd_law_is_flat_b3) (dFrz 2 (dRet (dOp eqD (dVar 2) (dLst (dCons (dC (.int 0)) (dCons (dC (.int 0)) (dCons (dC (.int 0)) (dCons (dC (.int 0)) (dCons (dC (.int 0)) dNil)))))))))))
/-- the sums after the first turns -/
def stepF (A : Nat → Int) (T : Nat → Nat → Int) (k i : Nat) (l : List Int) (j : Nat) : List Int := l.set (i + j) (l.getD (i + j) 0 + A k * T k i * T k j)
def rwF (A : Nat → Int) (T : Nat → Nat → Int) (k : Nat) (l : List Int) (i : Nat) : List Int := (List.range 3).foldl (stepF A T k i) l
def kF (A : Nat → Int) (T : Nat → Nat → Int) (l : List Int) (k : Nat) : List Int := (List.range 3).foldl (rwF A T k) l
def idx3 (x y z : Int) : Nat → Int | 0 => x | 1 => y | 2 => z | _ => 0
abbrev R3 := Int × Int × Int
def idxR (r0 r1 r2 : R3) : Nat → Nat → Int | 0 => idx3 r0.1 r0.2.1 r0.2.2 | 1 => idx3 r1.1 r1.2.1 r1.2.2 | 2 => idx3 r2.1 r2.2.1 r2.2.2 | _ => fun _ => 0
def sumsF (a b c : Int) (r0 r1 r2 : R3) : List Int := (List.range 3).foldl (kF (idx3 a b c) (idxR r0 r1 r2)) [0, 0, 0, 0, 0]
def sp_law_is_flat : Lay.Spec := fun ds R => match ds with
  | [.tuple [.int a, .int b, .int c], .tuple [.tuple [.int f0, .int g0, .int h0], .tuple [.int f1, .int g1, .int h1], .tuple [.int f2, .int g2, .int h2]]] => ((a.natAbs < 2 ^ 40 ∧ b.natAbs < 2 ^ 40 ∧ c.natAbs < 2 ^ 40) ∧ RowB (f0, g0, h0) ∧ RowB (f1, g1, h1) ∧ RowB (f2, g2, h2)) ∧ R (.bool (decide (sumsF a b c (f0, g0, h0) (f1, g1, h1) (f2, g2, h2) = [0, 0, 0, 0, 0])))
  | _ => False
theorem foldl_take {α : Type} (f : α → Nat → α) (a : α) (i : Nat) : (List.range (i + 1)).foldl f a = f ((List.range i).foldl f a) i := by
  rw [List.range_succ, List.foldl_append]
  rfl
theorem at3 {d0 d1 d2 : D} {k : Nat} (hk : k < 3) : atI [d0, d1, d2] (k : Int) = some (match k with | 0 => d0 | 1 => d1 | _ => d2) := by
  match k, hk with
  | 0, _ => rfl
  | 1, _ => rfl
  | 2, _ => rfl
theorem atA {x y z : Int} {k : Nat} (hk : k < 3) : atI [PyData.int x, .int y, .int z] (k : Int) = some (.int (idx3 x y z k)) := by
  match k, hk with
  | 0, _ => rfl
  | 1, _ => rfl
  | 2, _ => rfl
theorem atR {r0 r1 r2 : R3} {k : Nat} (hk : k < 3) : atI [PyData.tuple [.int r0.1, .int r0.2.1, .int r0.2.2], .tuple [.int r1.1, .int r1.2.1, .int r1.2.2], .tuple [.int r2.1, .int r2.2.1, .int r2.2.2]] (k : Int) = some (.tuple [.int (idxR r0 r1 r2 k 0), .int (idxR r0 r1 r2 k 1), .int (idxR r0 r1 r2 k 2)]) := by
  match k, hk with
  | 0, _ => rfl
  | 1, _ => rfl
  | 2, _ => rfl
theorem idx3_eta (T : Nat → Int) {i : Nat} (hi : i < 3) : idx3 (T 0) (T 1) (T 2) i = T i := by
  match i, hi with
  | 0, _ => rfl
  | 1, _ => rfl
  | 2, _ => rfl
theorem idx3_b {x y z : Int} {n k : Nat} (hx : x.natAbs < 2 ^ n) (hy : y.natAbs < 2 ^ n) (hz : z.natAbs < 2 ^ n) (hk : k < 3) : (idx3 x y z k).natAbs < 2 ^ n := by
  match k, hk with
  | 0, _ => exact hx
  | 1, _ => exact hy
  | 2, _ => exact hz
theorem idxR_b {r0 r1 r2 : R3} (h0 : RowB r0) (h1 : RowB r1) (h2 : RowB r2) {k i : Nat} (hk : k < 3) (hi : i < 3) : (idxR r0 r1 r2 k i).natAbs < 2 ^ 40 := by
  match k, hk with
  | 0, _ => exact idx3_b h0.1 h0.2.1 h0.2.2 hi
  | 1, _ => exact idx3_b h1.1 h1.2.1 h1.2.2 hi
  | 2, _ => exact idx3_b h2.1 h2.2.1 h2.2.2 hi
theorem rwF_len (A : Nat → Int) (T : Nat → Nat → Int) (k i : Nat) : ∀ (n : Nat) (l : List Int), ((List.range n).foldl (stepF A T k i) l).length = l.length
  | 0, l => rfl
  | n + 1, l => by
    rw [foldl_take]
    show (List.set _ _ _).length = _
    rw [List.length_set, rwF_len A T k i n l]
theorem kF_len (A : Nat → Int) (T : Nat → Nat → Int) (k : Nat) : ∀ (n : Nat) (l : List Int), ((List.range n).foldl (rwF A T k) l).length = l.length
  | 0, l => rfl
  | n + 1, l => by
    rw [foldl_take]
    rw [show ∀ X : List Int, (rwF A T k X n).length = X.length from fun X => rwF_len A T k n 3 X, kF_len A T k n l]
theorem sF_len (A : Nat → Int) (T : Nat → Nat → Int) : ∀ (n : Nat) (l : List Int), ((List.range n).foldl (kF A T) l).length = l.length
  | 0, l => rfl
  | n + 1, l => by
    rw [foldl_take]
    rw [show ∀ X : List Int, (kF A T X n).length = X.length from fun X => kF_len A T n 3 X, sF_len A T n l]
theorem ok_law_is_flat : ∀ ds R, sp_law_is_flat ds R → rd_law_is_flat (fnE R) (startE 6 ds) := by
  intro ds R H
  unfold sp_law_is_flat at H
  split at H
  · rename_i a b c f0 g0 h0 f1 g1 h1 f2 g2 h2
    obtain ⟨⟨⟨ba, bb, bc⟩, r0, r1, r2⟩, H⟩ := H
    unfold rd_law_is_flat
    walk_at "dd"
    refine ⟨by decide, ?_⟩
    generalize hr0 : ((f0, g0, h0) : R3) = p0 at *
    generalize hr1 : ((f1, g1, h1) : R3) = p1 at *
    generalize hr2 : ((f2, g2, h2) : R3) = p2 at *
    have e0 : PyData.tuple [.int f0, .int g0, .int h0] = .tuple [.int p0.1, .int p0.2.1, .int p0.2.2] := by rw [← hr0]
    have e1 : PyData.tuple [.int f1, .int g1, .int h1] = .tuple [.int p1.1, .int p1.2.1, .int p1.2.2] := by rw [← hr1]
    have e2 : PyData.tuple [.int f2, .int g2, .int h2] = .tuple [.int p2.1, .int p2.2.1, .int p2.2.2] := by rw [← hr2]
    rw [e0, e1, e2]
    have ez : [PyData.int 0, .int 0, .int 0, .int 0, .int 0] = ([0, 0, 0, 0, 0] : List Int).map .int := rfl
    rw [ez]
    generalize hA : idx3 a b c = A
    generalize hT : idxR p0 p1 p2 = T
    let en := fun (l : List Int) (u v w : Sl) => ([.val (.tuple [.int a, .int b, .int c]), .val (.tuple [.tuple [.int p0.1, .int p0.2.1, .int p0.2.2], .tuple [.int p1.1, .int p1.2.1, .int p1.2.2], .tuple [.int p2.1, .int p2.2.1, .int p2.2.2]]), .own (l.map .int), u, v, w] : En)
    refine for_by (fun (s : List Int × Sl × Sl × Sl) => [.val (.tuple [.int a, .int b, .int c]), .val (.tuple [.tuple [.int p0.1, .int p0.2.1, .int p0.2.2], .tuple [.int p1.1, .int p1.2.1, .int p1.2.2], .tuple [.int p2.1, .int p2.2.1, .int p2.2.2]]), .own (s.1.map .int), s.2.1, s.2.2.1, s.2.2.2]) (fun k s => s.1 = (List.range k).foldl (kF A T) [0, 0, 0, 0, 0]) ([0, 0, 0, 0, 0], .un, .un, .un) rfl rfl ?_ ?_
    · rintro k d hd ⟨l, u1, u2, u3⟩ hl bk
      simp only at hl
      obtain ⟨hk, rfl⟩ := rangeD_get hd
      have hk : k < 3 := hk
      rw [Int.zero_add]
      unfold rd_law_is_flat_b3
      walk_at "dd"
      refine ⟨by decide, ?_⟩
      refine for_by (fun (s : List Int × Sl × Sl) => [.val (.tuple [.int a, .int b, .int c]), .val (.tuple [.tuple [.int p0.1, .int p0.2.1, .int p0.2.2], .tuple [.int p1.1, .int p1.2.1, .int p1.2.2], .tuple [.int p2.1, .int p2.2.1, .int p2.2.2]]), .own (s.1.map .int), .val (.int (k : Int)), s.2.1, s.2.2]) (fun i s => s.1 = (List.range i).foldl (rwF A T k) l) (l, u2, u3) rfl rfl ?_ ?_
      · rintro i d hd2 ⟨l2, v2, v3⟩ hl2 bk2
        simp only at hl2
        obtain ⟨hi, rfl⟩ := rangeD_get hd2
        have hi : i < 3 := hi
        rw [Int.zero_add]
        unfold rd_law_is_flat_b2
        walk_at "dd"
        refine ⟨by decide, ?_⟩
        refine for_by (fun (s : List Int × Sl) => [.val (.tuple [.int a, .int b, .int c]), .val (.tuple [.tuple [.int p0.1, .int p0.2.1, .int p0.2.2], .tuple [.int p1.1, .int p1.2.1, .int p1.2.2], .tuple [.int p2.1, .int p2.2.1, .int p2.2.2]]), .own (s.1.map .int), .val (.int (k : Int)), .val (.int (i : Int)), s.2]) (fun j s => s.1 = (List.range j).foldl (stepF A T k i) l2) (l2, v3) rfl rfl ?_ ?_
        · rintro j d hd3 ⟨l3, w3⟩ hl3 bk3
          simp only at hl3
          obtain ⟨hj, rfl⟩ := rangeD_get hd3
          have hj : j < 3 := hj
          rw [Int.zero_add]
          unfold rd_law_is_flat_b1
          have len : l3.length = 5 := by
            rw [hl3, rwF_len, hl2, kF_len, hl, sF_len]
            rfl
          have ea : atI [PyData.int a, .int b, .int c] (k : Int) = some (.int (A k)) := by rw [← hA]; exact atA hk
          have er : atI [PyData.tuple [.int p0.1, .int p0.2.1, .int p0.2.2], .tuple [.int p1.1, .int p1.2.1, .int p1.2.2], .tuple [.int p2.1, .int p2.2.1, .int p2.2.2]] (k : Int) = some (.tuple [.int (T k 0), .int (T k 1), .int (T k 2)]) := by rw [← hT]; exact atR hk
          have ei : atI [PyData.int (T k 0), .int (T k 1), .int (T k 2)] (i : Int) = some (.int (T k i)) := by rw [atA hi, idx3_eta _ hi]
          have ej : atI [PyData.int (T k 0), .int (T k 1), .int (T k 2)] (j : Int) = some (.int (T k j)) := by rw [atA hj, idx3_eta _ hj]
          have bA : (A k).natAbs < 2 ^ 40 := by rw [← hA]; exact idx3_b ba bb bc hk
          have bTi : (T k i).natAbs < 2 ^ 40 := by rw [← hT]; exact idxR_b r0 r1 r2 hk hi
          have bTj : (T k j).natAbs < 2 ^ 40 := by rw [← hT]; exact idxR_b r0 r1 r2 hk hj
          walk_at "dd"
          have eij : ((i : Int) + (j : Int)).toNat = i + j := by omega
          rw [eij]
          refine ⟨by omega, l3.getD (i + j) 0, ?_, ?_⟩
          · rw [List.getElem?_map, List.getD_eq_getElem?_getD, List.getElem?_eq_getElem (by omega)]
            rfl
          · rw [ea, er]
            walk_at "dd"
            rw [ei, ej]
            walk_at "dd"
            refine ⟨mulOk bA bTi (by decide), mulOk (bits_mul bA bTi) bTj (by decide), (l3.set (i + j) (l3.getD (i + j) 0 + A k * T k i * T k j), .val (.int (j : Int))), ?_, ?_⟩
            · rw [List.map_set]
            · rw [foldl_take, ← hl3]
              rfl
        · rintro ⟨l3, w3⟩ hl3
          exact ⟨(l3, _, _), rfl, by rw [foldl_take, ← hl2]; exact hl3⟩
      · rintro ⟨l2, v2, v3⟩ hl2
        exact ⟨(l2, _, _, _), rfl, by rw [foldl_take, ← hl]; exact hl2⟩
    · rintro ⟨l, u1, u2, u3⟩ hl
      have hl : l = (List.range 3).foldl (kF A T) [0, 0, 0, 0, 0] := hl
      walk_at "dd"
      have ev : PyData.eqv (.list (l.map .int)) (.list [.int 0, .int 0, .int 0, .int 0, .int 0]) = decide (l = [0, 0, 0, 0, 0]) := by
        rw [ez, PyData.eqv]
        exact eqvAll_ints l [0, 0, 0, 0, 0]
      rw [ev]
      unfold sumsF at H
      rw [hA, hT, ← hl] at H
      exact ⟨shaped_listI [0, 0, 0, 0, 0], H⟩
  · exact H.elim
local macro_rules | `(tactic| walk_at "d1") => `(tactic| try simp only [dSeq, dSkip, dPass, dRet, dRetN, dDrop, dCond, dAsg, gNm, gTp, dOwn, dOwnL, dPar, dAug, dApp, dExt, dFrz, dFor, dLc, dBreak, dCont, dVar, dC, dOp, dT, dIsi, dNeg, dNot, dTNot, dAnd, dOr, dTAnd, dTOr, dIf, dCh, dNil, dCons, dTup, dLst, dIxO, dB, dCall, dCallW, dItems, dRng1, dRng2, dYes, fnE, startE, startW, startS, dLenO, dLenS, dIxS, dSl, dPt, dNo, wipeE, addD_int, addD_str, addD_tup, addD_lst, subD_int, mulD_int, mulD_tup, mulD_lst, fdivD_int, modD_int, powD_int, shlD_int, shrD_int, andD_int, ltD_int, leD_int, gtD_int, geD_int, eqD_ap, neD_ap, isD_ap, isNotD_ap, isNon_none, isNon_int, isNon_bool, isNon_str, isNon_tup, isNon_lst, isInt_none, isInt_int, isInt_bool, isInt_str, isInt_tup, isInt_lst, isBool_none, isBool_int, isBool_bool, isBool_str, isBool_tup, isBool_lst, isStr_none, isStr_int, isStr_bool, isStr_str, isStr_tup, isStr_lst, isTup_none, isTup_int, isTup_bool, isTup_str, isTup_tup, isTup_lst, isLst_lst, Cnd_true, Cnd_false, Cnd_not, Cnd_dec, asB_bool, forall_const, true_implies, false_implies, implies_true, decide_true, decide_false, Classical.not_not, negD_int, notD_bool, onVal_val, onOwn_own, onDic_dic, onScr_scr, onWv_wv, onInt_int, onTup_tup, onLst_lst, onItems_lst, onItems_tup, frz1_own, frz1_val, frz1_un, ixD_lst, ixD_tup, ixL_int, optD_some, optI_some, absD_int, intD_int, intD_bool, lenD_lst, lenD_tup, lenD_str, tupleD_lst, tupleD_tup, listD_lst, listD_tup, min2D_int, max2D_int, sumD_ints, allD_bls, anyD_bls, slD_lst, slD_tup, slD_str, gNl_nil, gCs_cons, par2_two, seq1_lst, seq1_tup, rng1D_int, rng2D_int, gt_z, gt_s, sp_next_int, set_z, set_s, List.map_cons, List.map_nil, List.length_cons, List.length_nil, List.cons_append, List.nil_append, List.replicate, Nat.reduceAdd, Nat.reduceSub, Nat.zero_add, shaped_int, shaped_bool, shaped_none, shaped_listI, shaped_tupI, shaped_nilL, shaped_nilT, eqv_int, eqv_bool, eqv_str, eqv_none, eqv_list_nil, List.isEmpty_nil, List.isEmpty_cons, Bool.true_eq_false, Bool.false_eq_true, decide_eq_true_eq, and_self, true_and, and_true, not_dec, Bool.not_eq_true', decide_eq_false_iff_not, atI_0, atI_1, atI_2, ite_true, ite_false, if_true, if_false, reduceIte, Bool.not_true, Bool.not_false, not_true_eq_false, not_false_eq_true, List.set_cons_zero, List.set_cons_succ, dPar3, dRev, par3_three, sortedD_ints, revD_tup, two_nat, one_nat, three_nat, dCh3, dOwnC, dPutPar, putPar_two, dZip2, zip2D_lst, zip2D_tup, dPut, isBD_bl, isNotBD_bl, dNewO, dPutO, dSortedO, putKD_int, dPar3O, dParO2, par3O_two, parO2_one, minLD_lst, dKeysW, rdPairs_nil, rdPairs_cons, onPair_ii, inTD_lst, gTl, dAugS, dZip3, zip3D_tup, zip3L_cons, zip3L_nil, revD_lst, spx_between, spx_directions, spx_law_common_v2, spx_law_lone_t, spx_law_lone_l, spx_curve_of])
local macro_rules | `(tactic| walk_at "dd") => `(tactic| (walk_at "d1"; repeat (with_reducible (refine then_intro ?_); walk_at "d1")))
/-! the curve of a zero: what it gives at a pair -/
theorem curve_at {a b c x y z : Int} (s t : Int) : (curveR a b c x y z).map (rowV s t) = if x ≠ 0 then [x * (b * s * s + c * t * t), y * (b * s * s + c * t * t) - 2 * s * (b * y * s + c * z * t), z * (b * s * s + c * t * t) - 2 * t * (b * y * s + c * z * t)]
    else [x * (a * s * s + c * t * t) - 2 * s * (a * x * s + c * z * t), y * (a * s * s + c * t * t), z * (a * s * s + c * t * t) - 2 * t * (a * x * s + c * z * t)] := by
  unfold curveR
  split <;> simp only [rowsC, rowC, List.map_cons, List.map_nil, rowV, List.cons.injEq, and_true]
  · refine ⟨?_, ?_, ?_⟩ <;> grind
  · refine ⟨?_, ?_, ?_⟩ <;> grind
theorem sums_eq (a b c : Int) (r0 r1 r2 : R3) : sumsF a b c r0 r1 r2 = [a * r0.1 * r0.1 + b * r1.1 * r1.1 + c * r2.1 * r2.1,
    2 * (a * r0.1 * r0.2.1 + b * r1.1 * r1.2.1 + c * r2.1 * r2.2.1),
    2 * (a * r0.1 * r0.2.2 + b * r1.1 * r1.2.2 + c * r2.1 * r2.2.2) + (a * r0.2.1 * r0.2.1 + b * r1.2.1 * r1.2.1 + c * r2.2.1 * r2.2.1),
    2 * (a * r0.2.1 * r0.2.2 + b * r1.2.1 * r1.2.2 + c * r2.2.1 * r2.2.2),
    a * r0.2.2 * r0.2.2 + b * r1.2.2 * r1.2.2 + c * r2.2.2 * r2.2.2] := by
  have e : sumsF a b c r0 r1 r2 = [0 + a * r0.1 * r0.1 + b * r1.1 * r1.1 + c * r2.1 * r2.1,
    0 + a * r0.1 * r0.2.1 + a * r0.2.1 * r0.1 + b * r1.1 * r1.2.1 + b * r1.2.1 * r1.1 + c * r2.1 * r2.2.1 + c * r2.2.1 * r2.1,
    0 + a * r0.1 * r0.2.2 + a * r0.2.1 * r0.2.1 + a * r0.2.2 * r0.1 + b * r1.1 * r1.2.2 + b * r1.2.1 * r1.2.1 + b * r1.2.2 * r1.1 + c * r2.1 * r2.2.2 + c * r2.2.1 * r2.2.1 + c * r2.2.2 * r2.1,
    0 + a * r0.2.1 * r0.2.2 + a * r0.2.2 * r0.2.1 + b * r1.2.1 * r1.2.2 + b * r1.2.2 * r1.2.1 + c * r2.2.1 * r2.2.2 + c * r2.2.2 * r2.2.1,
    0 + a * r0.2.2 * r0.2.2 + b * r1.2.2 * r1.2.2 + c * r2.2.2 * r2.2.2] := by
    have hr : List.range 3 = [0, 1, 2] := rfl
    simp only [sumsF, kF, rwF, stepF, hr, List.foldl_cons, List.foldl_nil, idx3, idxR, Nat.add_zero, Nat.zero_add, Nat.reduceAdd, List.getD_cons_zero, List.getD_cons_succ, List.set_cons_zero, List.set_cons_succ]
  rw [e]
  simp only [List.cons.injEq, and_true]
  refine ⟨?_, ?_, ?_, ?_, ?_⟩ <;> grind
/-- the curve of a zero is flat -/
theorem curve_flat {a b c x y z : Int} (h : a * x * x + b * y * y + c * z * z = 0) : ∃ r0 r1 r2, curveR a b c x y z = [r0, r1, r2] ∧ sumsF a b c r0 r1 r2 = [0, 0, 0, 0, 0] := by
  unfold curveR
  split
  · refine ⟨_, _, _, rfl, ?_⟩
    rw [sums_eq]
    simp only [rowC, List.cons.injEq, and_true]
    refine ⟨?_, ?_, ?_, ?_, ?_⟩
    · have : b * b * (a * x * x + b * y * y + c * z * z) = 0 := by rw [h, Int.mul_zero]
      grind
    · grind
    · have : 2 * (b * c) * (a * x * x + b * y * y + c * z * z) = 0 := by rw [h, Int.mul_zero]
      grind
    · grind
    · have : c * c * (a * x * x + b * y * y + c * z * z) = 0 := by rw [h, Int.mul_zero]
      grind
  · refine ⟨_, _, _, rfl, ?_⟩
    rw [sums_eq]
    simp only [rowC, List.cons.injEq, and_true]
    refine ⟨?_, ?_, ?_, ?_, ?_⟩
    · have : a * a * (a * x * x + b * y * y + c * z * z) = 0 := by rw [h, Int.mul_zero]
      grind
    · grind
    · have : 2 * (a * c) * (a * x * x + b * y * y + c * z * z) = 0 := by rw [h, Int.mul_zero]
      grind
    · grind
    · have : c * c * (a * x * x + b * y * y + c * z * z) = 0 := by rw [h, Int.mul_zero]
      grind
/-- the point of the curve, lone -/
def ptC (a b c x y z s t : Int) : Int × Int × Int := match curveR a b c x y z with
  | [r0, r1, r2] => loneT (rowV s t r0) (rowV s t r1) (rowV s t r2)
  | _ => (0, 0, 0)
theorem ptC_pos {a b c x y z s t : Int} (hx : x ≠ 0) : ptC a b c x y z s t = loneT (x * (b * s * s + c * t * t)) (y * (b * s * s + c * t * t) - 2 * s * (b * y * s + c * z * t)) (z * (b * s * s + c * t * t) - 2 * t * (b * y * s + c * z * t)) := by
  have e := curve_at (a := a) (b := b) (c := c) (x := x) (y := y) (z := z) s t
  rw [if_pos hx] at e
  unfold ptC
  match hq : curveR a b c x y z with
  | [r0, r1, r2] =>
    rw [hq] at e
    simp only [List.map_cons, List.map_nil, List.cons.injEq, and_true] at e
    simp only
    rw [e.1, e.2.1, e.2.2]
  | [] => rw [hq] at e; simp at e
  | [_] => rw [hq] at e; simp at e
  | [_, _] => rw [hq] at e; simp at e
  | _ :: _ :: _ :: _ :: _ => rw [hq] at e; simp at e
theorem ptC_neg {a b c y z s t : Int} : ptC a b c 0 y z s t = loneT (-2 * s * (c * z * t)) (y * (a * s * s + c * t * t)) (z * (a * s * s + c * t * t) - 2 * t * (c * z * t)) := by
  have e := curve_at (a := a) (b := b) (c := c) (x := 0) (y := y) (z := z) s t
  rw [if_neg (fun w => w rfl)] at e
  unfold ptC
  match hq : curveR a b c 0 y z with
  | [r0, r1, r2] =>
    rw [hq] at e
    simp only [List.map_cons, List.map_nil, List.cons.injEq, and_true] at e
    simp only
    rw [e.1, e.2.1, e.2.2]
    congr 1
    · grind
    · grind
  | [] => rw [hq] at e; simp at e
  | [_] => rw [hq] at e; simp at e
  | [_, _] => rw [hq] at e; simp at e
  | _ :: _ :: _ :: _ :: _ => rw [hq] at e; simp at e
/-- the first two points are not one -/
theorem two_points {a b c x y z : Int} (a0 : a ≠ 0) (b0 : b ≠ 0) (c0 : c ≠ 0) (h : a * x * x + b * y * y + c * z * z = 0) (nz : ¬ (x = 0 ∧ y = 0 ∧ z = 0)) : ptC a b c x y z 1 0 ≠ ptC a b c x y z 0 1 := by
  have sq : ∀ {k u : Int}, k ≠ 0 → k * u * u = 0 → u = 0 := fun {k u} hk e => by
    rw [Int.mul_assoc] at e
    exact ((Int.mul_eq_zero.mp e).resolve_left hk |> Int.mul_eq_zero.mp).elim id id
  intro e
  by_cases hx : x = 0
  · subst hx
    rw [ptC_neg, ptC_neg] at e
    have h' : b * y * y + c * z * z = 0 := by rw [← h]; grind
    have y0 : y ≠ 0 := fun w => by
      subst w
      have := sq (k := c) (u := z) c0 (by rw [← h']; grind)
      exact nz ⟨rfl, rfl, this⟩
    obtain ⟨_, _, k3⟩ := lone_cross e
    have k4 : a * c * y * z = 0 := by grind
    have z0 : z = 0 := by
      rcases Int.mul_eq_zero.mp k4 with w | w
      · rcases Int.mul_eq_zero.mp w with w | w
        · exact absurd w (fun q => (Int.mul_eq_zero.mp q).elim a0 c0)
        · exact absurd w y0
      · exact w
    rw [z0] at h'
    exact y0 (sq (k := b) b0 (by rw [← h']; grind))
  · rw [ptC_pos hx, ptC_pos hx] at e
    obtain ⟨k1, k2, _⟩ := lone_cross e
    have bc : b * c ≠ 0 := fun q => (Int.mul_eq_zero.mp q).elim b0 c0
    have k3 : b * c * x * y = 0 := by grind
    have k4 : b * c * x * z = 0 := by grind
    have xz : ∀ {u : Int}, b * c * x * u = 0 → u = 0 := fun {u} w => by
      rcases Int.mul_eq_zero.mp w with w | w
      · rcases Int.mul_eq_zero.mp w with w | w
        · exact absurd w bc
        · exact absurd w hx
      · exact w
    rw [xz k3, xz k4] at h
    exact hx (sq (k := a) a0 (by rw [← h]; grind))
local macro_rules | `(tactic| walk_at "d1") => `(tactic| try simp only [dSeq, dSkip, dPass, dRet, dRetN, dDrop, dCond, dAsg, gNm, gTp, dOwn, dOwnL, dPar, dAug, dApp, dExt, dFrz, dFor, dLc, dBreak, dCont, dVar, dC, dOp, dT, dIsi, dNeg, dNot, dTNot, dAnd, dOr, dTAnd, dTOr, dIf, dCh, dNil, dCons, dTup, dLst, dIxO, dB, dCall, dCallW, dItems, dRng1, dRng2, dYes, fnE, startE, startW, startS, dLenO, dLenS, dIxS, dSl, dPt, dNo, wipeE, addD_int, addD_str, addD_tup, addD_lst, subD_int, mulD_int, mulD_tup, mulD_lst, fdivD_int, modD_int, powD_int, shlD_int, shrD_int, andD_int, ltD_int, leD_int, gtD_int, geD_int, eqD_ap, neD_ap, isD_ap, isNotD_ap, isNon_none, isNon_int, isNon_bool, isNon_str, isNon_tup, isNon_lst, isInt_none, isInt_int, isInt_bool, isInt_str, isInt_tup, isInt_lst, isBool_none, isBool_int, isBool_bool, isBool_str, isBool_tup, isBool_lst, isStr_none, isStr_int, isStr_bool, isStr_str, isStr_tup, isStr_lst, isTup_none, isTup_int, isTup_bool, isTup_str, isTup_tup, isTup_lst, isLst_lst, Cnd_true, Cnd_false, Cnd_not, Cnd_dec, asB_bool, forall_const, true_implies, false_implies, implies_true, decide_true, decide_false, Classical.not_not, negD_int, notD_bool, onVal_val, onOwn_own, onDic_dic, onScr_scr, onWv_wv, onInt_int, onTup_tup, onLst_lst, onItems_lst, onItems_tup, frz1_own, frz1_val, frz1_un, ixD_lst, ixD_tup, ixL_int, optD_some, optI_some, absD_int, intD_int, intD_bool, lenD_lst, lenD_tup, lenD_str, tupleD_lst, tupleD_tup, listD_lst, listD_tup, min2D_int, max2D_int, sumD_ints, allD_bls, anyD_bls, slD_lst, slD_tup, slD_str, gNl_nil, gCs_cons, par2_two, seq1_lst, seq1_tup, rng1D_int, rng2D_int, gt_z, gt_s, sp_next_int, set_z, set_s, List.map_cons, List.map_nil, List.length_cons, List.length_nil, List.cons_append, List.nil_append, List.replicate, Nat.reduceAdd, Nat.reduceSub, Nat.zero_add, shaped_int, shaped_bool, shaped_none, shaped_listI, shaped_tupI, shaped_nilL, shaped_nilT, eqv_int, eqv_bool, eqv_str, eqv_none, eqv_list_nil, List.isEmpty_nil, List.isEmpty_cons, Bool.true_eq_false, Bool.false_eq_true, decide_eq_true_eq, and_self, true_and, and_true, not_dec, Bool.not_eq_true', decide_eq_false_iff_not, atI_0, atI_1, atI_2, ite_true, ite_false, if_true, if_false, reduceIte, Bool.not_true, Bool.not_false, not_true_eq_false, not_false_eq_true, List.set_cons_zero, List.set_cons_succ, dPar3, dRev, par3_three, sortedD_ints, revD_tup, two_nat, one_nat, three_nat, dCh3, dOwnC, dPutPar, putPar_two, dZip2, zip2D_lst, zip2D_tup, dPut, isBD_bl, isNotBD_bl, dNewO, dPutO, dSortedO, putKD_int, dPar3O, dParO2, par3O_two, parO2_one, minLD_lst, dKeysW, rdPairs_nil, rdPairs_cons, onPair_ii, inTD_lst, gTl, dAugS, dZip3, zip3D_tup, zip3L_cons, zip3L_nil, revD_lst, spx_between, spx_directions, spx_law_common_v2, spx_law_lone_t, spx_law_lone_l, spx_curve_of])
local macro_rules | `(tactic| walk_at "dd") => `(tactic| (walk_at "d1"; repeat (with_reducible (refine then_intro ?_); walk_at "d1")))
/-! the pair of a zero on the curve -/
theorem two_flat {b c y z s t : Int} (b0 : b ≠ 0) (c0 : c ≠ 0) (n : b * s * s + c * t * t = 0) (l : b * y * s + c * z * t = 0) (st : ¬ (s = 0 ∧ t = 0)) : b * y * y + c * z * z = 0 := by
  have sq : ∀ {k u : Int}, k ≠ 0 → k * u * u = 0 → u = 0 := fun {k u} hk e => by
    rw [Int.mul_assoc] at e
    exact ((Int.mul_eq_zero.mp e).resolve_left hk |> Int.mul_eq_zero.mp).elim id id
  have s0 : s ≠ 0 := fun w => by
    subst w
    exact st ⟨rfl, sq c0 (by rw [← n]; grind)⟩
  have t0 : t ≠ 0 := fun w => by
    subst w
    exact st ⟨sq b0 (by rw [← n]; grind), rfl⟩
  -- t y = z s
  have e1 : c * t * (t * y - z * s) = 0 := by
    have : s * (b * y * s + c * z * t) = 0 := by rw [l, Int.mul_zero]
    have : y * (b * s * s + c * t * t) = 0 := by rw [n, Int.mul_zero]
    grind
  have e2 : t * y - z * s = 0 := by
    rcases Int.mul_eq_zero.mp e1 with w | w
    · exact absurd w (fun q => (Int.mul_eq_zero.mp q).elim c0 t0)
    · exact w
  have e3 : t * t * (b * y * y + c * z * z) = 0 := by
    have h1 : t * y = z * s := by omega
    have h2 : t * t * (b * y * y + c * z * z) = b * (t * y) * (t * y) + c * t * t * (z * z) := by grind
    rw [h2, h1]
    have : z * z * (b * s * s + c * t * t) = 0 := by rw [n, Int.mul_zero]
    grind
  rcases Int.mul_eq_zero.mp e3 with w | w
  · exact absurd w (fun q => (Int.mul_eq_zero.mp q).elim t0 t0)
  · exact w
theorem sq_zero {k u : Int} (hk : k ≠ 0) (e : k * u * u = 0) : u = 0 := by
  rw [Int.mul_assoc] at e
  exact ((Int.mul_eq_zero.mp e).resolve_left hk |> Int.mul_eq_zero.mp).elim id id
/-- scaling of the pair -/
theorem ptC_scale {a b c x y z s t k : Int} (hk : k ≠ 0) : ptC a b c x y z (k * s) (k * t) = ptC a b c x y z s t := by
  have kk : k * k ≠ 0 := fun q => (Int.mul_eq_zero.mp q).elim hk hk
  by_cases hx : x = 0
  · subst hx
    rw [ptC_neg, ptC_neg]
    refine Eq.trans ?_ (lone_k kk _ _ _)
    congr 1 <;> grind
  · rw [ptC_pos hx, ptC_pos hx]
    refine Eq.trans ?_ (lone_k kk _ _ _)
    congr 1 <;> grind
section
variable {a b c x y z X Y Z : Int} (a0 : a ≠ 0) (b0 : b ≠ 0) (c0 : c ≠ 0) (h : a * x * x + b * y * y + c * z * z = 0) (H : a * X * X + b * Y * Y + c * Z * Z = 0)
include a0 b0 c0 h H
/-- x is not 0: the pair of another zero -/
theorem told_pos (hx : x ≠ 0) (st : ¬ (Y * x - y * X = 0 ∧ Z * x - z * X = 0)) : ptC a b c x y z (Y * x - y * X) (Z * x - z * X) = loneT X Y Z := by
  rw [ptC_pos hx]
  generalize hs : Y * x - y * X = s at *
  generalize ht : Z * x - z * X = t at *
  generalize hB : a * x * X + b * y * Y + c * z * Z = B
  have K1 : b * s * s + c * t * t = -2 * x * X * B := by
    have e1 : x * x * (a * X * X + b * Y * Y + c * Z * Z) = 0 := by rw [H, Int.mul_zero]
    have e2 : X * X * (a * x * x + b * y * y + c * z * z) = 0 := by rw [h, Int.mul_zero]
    rw [← hs, ← ht, ← hB]
    grind
  have K2 : b * y * s + c * z * t = x * B := by
    have e2 : X * (a * x * x + b * y * y + c * z * z) = 0 := by rw [h, Int.mul_zero]
    rw [← hs, ← ht, ← hB]
    grind
  have B0 : B ≠ 0 := fun w => by
    rw [w, Int.mul_zero] at K1 K2
    have := two_flat b0 c0 K1 K2 st
    exact hx (sq_zero a0 (by omega))
  rw [K1, K2]
  have k0 : -2 * x * x * B ≠ 0 := fun w => by
    rcases Int.mul_eq_zero.mp w with w | w
    · rcases Int.mul_eq_zero.mp w with w | w
      · omega
      · exact hx w
    · exact B0 w
  rw [← lone_k k0 X Y Z]
  congr 1
  · grind
  · rw [← hs]; grind
  · rw [← ht]; grind
/-- the tangent pair -/
theorem told_posT (hx : x ≠ 0) (nz : ¬ (X = 0 ∧ Y = 0 ∧ Z = 0)) (e1 : Y * x - y * X = 0) (e2 : Z * x - z * X = 0) : ¬ (c * z = 0 ∧ -(b * y) = 0) ∧ ptC a b c x y z (c * z) (-(b * y)) = loneT X Y Z := by
  have X0 : X ≠ 0 := fun w => by
    rw [w, Int.mul_zero] at e1 e2
    have y0 : Y * x = 0 := by omega
    have z0 : Z * x = 0 := by omega
    exact nz ⟨w, (Int.mul_eq_zero.mp y0).resolve_right hx, (Int.mul_eq_zero.mp z0).resolve_right hx⟩
  have q : b * y * y + c * z * z = -(a * x * x) := by omega
  have ax : a * x * x ≠ 0 := fun w => hx (sq_zero a0 w)
  refine ⟨fun ⟨w1, w2⟩ => ?_, ?_⟩
  · have z0 := (Int.mul_eq_zero.mp w1).resolve_left c0
    have y0 := (Int.mul_eq_zero.mp (show b * y = 0 by omega)).resolve_left b0
    rw [z0, y0] at q
    exact ax (by grind)
  · rw [ptC_pos hx]
    have L : b * y * (c * z) + c * z * (-(b * y)) = 0 := by grind
    have N : b * (c * z) * (c * z) + c * (-(b * y)) * (-(b * y)) = -(b * c) * (a * x * x) := by
      have : b * c * (b * y * y + c * z * z) = b * c * -(a * x * x) := by rw [q]
      grind
    rw [L, N]
    have k0 : -(b * c) * (a * x * x) ≠ 0 := fun w => by
      rcases Int.mul_eq_zero.mp w with w | w
      · exact (Int.mul_eq_zero.mp (show b * c = 0 by omega)).elim b0 c0
      · exact ax w
    have s1 : loneT X Y Z = loneT x y z := by
      rw [← lone_k hx X Y Z, ← lone_k X0 x y z]
      congr 1 <;> grind
    rw [s1, ← lone_k k0 x y z]
    congr 1 <;> grind
end
section
variable {a b c y z X Y Z : Int} (a0 : a ≠ 0) (b0 : b ≠ 0) (c0 : c ≠ 0) (h : b * y * y + c * z * z = 0) (H : a * X * X + b * Y * Y + c * Z * Z = 0)
include a0 b0 c0 h H
/-- x is 0 -/
theorem told_neg (hy : y ≠ 0) (st : ¬ (X * y - 0 * Y = 0 ∧ Z * y - z * Y = 0)) : ptC a b c 0 y z (X * y - 0 * Y) (Z * y - z * Y) = loneT X Y Z := by
  rw [ptC_neg]
  rw [Int.zero_mul, Int.sub_zero] at *
  generalize hs : X * y = s at *
  generalize ht : Z * y - z * Y = t at *
  generalize hB : b * y * Y + c * z * Z = B
  have K1 : a * s * s + c * t * t = -2 * y * Y * B := by
    have e1 : y * y * (a * X * X + b * Y * Y + c * Z * Z) = 0 := by rw [H, Int.mul_zero]
    have e2 : Y * Y * (b * y * y + c * z * z) = 0 := by rw [h, Int.mul_zero]
    rw [← hs, ← ht, ← hB]
    grind
  have K2 : c * z * t = y * B := by
    have e2 : Y * (b * y * y + c * z * z) = 0 := by rw [h, Int.mul_zero]
    rw [← ht, ← hB]
    grind
  have B0 : B ≠ 0 := fun w => by
    rw [w, Int.mul_zero] at K1 K2
    have := two_flat (y := 0) (z := z) a0 c0 K1 (by grind) st
    exact hy (sq_zero b0 (by grind))
  rw [K1, K2]
  have k0 : -2 * y * y * B ≠ 0 := fun w => by
    rcases Int.mul_eq_zero.mp w with w | w
    · rcases Int.mul_eq_zero.mp w with w | w
      · omega
      · exact hy w
    · exact B0 w
  rw [← lone_k k0 X Y Z]
  congr 1
  · rw [← hs]; grind
  · grind
  · rw [← ht]; grind
theorem told_negT (hy : y ≠ 0) (nz : ¬ (X = 0 ∧ Y = 0 ∧ Z = 0)) (e1 : X * y - 0 * Y = 0) (e2 : Z * y - z * Y = 0) : ¬ (c * z = 0 ∧ -(a * 0) = 0) ∧ ptC a b c 0 y z (c * z) (-(a * 0)) = loneT X Y Z := by
  rw [Int.mul_zero]
  have X0 : X = 0 := (Int.mul_eq_zero.mp (show X * y = 0 by omega)).resolve_right hy
  have Y0 : Y ≠ 0 := fun w => by
    rw [w, Int.mul_zero] at e2
    exact nz ⟨X0, w, (Int.mul_eq_zero.mp (show Z * y = 0 by omega)).resolve_right hy⟩
  have z0 : z ≠ 0 := fun w => by
    rw [w] at h
    exact hy (sq_zero b0 (by grind))
  refine ⟨fun ⟨w, _⟩ => (Int.mul_eq_zero.mp w).elim c0 z0, ?_⟩
  rw [ptC_neg]
  have k0 : a * (c * z) * (c * z) ≠ 0 := fun w => by
    have := sq_zero a0 w
    exact (Int.mul_eq_zero.mp this).elim c0 z0
  have s1 : loneT X Y Z = loneT 0 y z := by
    rw [← lone_k hy X Y Z, ← lone_k Y0 0 y z, X0]
    congr 1 <;> grind
  rw [s1, ← lone_k k0 0 y z]
  congr 1 <;> grind
end
local macro_rules | `(tactic| walk_at "d1") => `(tactic| try simp only [dSeq, dSkip, dPass, dRet, dRetN, dDrop, dCond, dAsg, gNm, gTp, dOwn, dOwnL, dPar, dAug, dApp, dExt, dFrz, dFor, dLc, dBreak, dCont, dVar, dC, dOp, dT, dIsi, dNeg, dNot, dTNot, dAnd, dOr, dTAnd, dTOr, dIf, dCh, dNil, dCons, dTup, dLst, dIxO, dB, dCall, dCallW, dItems, dRng1, dRng2, dYes, fnE, startE, startW, startS, dLenO, dLenS, dIxS, dSl, dPt, dNo, wipeE, addD_int, addD_str, addD_tup, addD_lst, subD_int, mulD_int, mulD_tup, mulD_lst, fdivD_int, modD_int, powD_int, shlD_int, shrD_int, andD_int, ltD_int, leD_int, gtD_int, geD_int, eqD_ap, neD_ap, isD_ap, isNotD_ap, isNon_none, isNon_int, isNon_bool, isNon_str, isNon_tup, isNon_lst, isInt_none, isInt_int, isInt_bool, isInt_str, isInt_tup, isInt_lst, isBool_none, isBool_int, isBool_bool, isBool_str, isBool_tup, isBool_lst, isStr_none, isStr_int, isStr_bool, isStr_str, isStr_tup, isStr_lst, isTup_none, isTup_int, isTup_bool, isTup_str, isTup_tup, isTup_lst, isLst_lst, Cnd_true, Cnd_false, Cnd_not, Cnd_dec, asB_bool, forall_const, true_implies, false_implies, implies_true, decide_true, decide_false, Classical.not_not, negD_int, notD_bool, onVal_val, onOwn_own, onDic_dic, onScr_scr, onWv_wv, onInt_int, onTup_tup, onLst_lst, onItems_lst, onItems_tup, frz1_own, frz1_val, frz1_un, ixD_lst, ixD_tup, ixL_int, optD_some, optI_some, absD_int, intD_int, intD_bool, lenD_lst, lenD_tup, lenD_str, tupleD_lst, tupleD_tup, listD_lst, listD_tup, min2D_int, max2D_int, sumD_ints, allD_bls, anyD_bls, slD_lst, slD_tup, slD_str, gNl_nil, gCs_cons, par2_two, seq1_lst, seq1_tup, rng1D_int, rng2D_int, gt_z, gt_s, sp_next_int, set_z, set_s, List.map_cons, List.map_nil, List.length_cons, List.length_nil, List.cons_append, List.nil_append, List.replicate, Nat.reduceAdd, Nat.reduceSub, Nat.zero_add, shaped_int, shaped_bool, shaped_none, shaped_listI, shaped_tupI, shaped_nilL, shaped_nilT, eqv_int, eqv_bool, eqv_str, eqv_none, eqv_list_nil, List.isEmpty_nil, List.isEmpty_cons, Bool.true_eq_false, Bool.false_eq_true, decide_eq_true_eq, and_self, true_and, and_true, not_dec, Bool.not_eq_true', decide_eq_false_iff_not, atI_0, atI_1, atI_2, ite_true, ite_false, if_true, if_false, reduceIte, Bool.not_true, Bool.not_false, not_true_eq_false, not_false_eq_true, List.set_cons_zero, List.set_cons_succ, dPar3, dRev, par3_three, sortedD_ints, revD_tup, two_nat, one_nat, three_nat, dCh3, dOwnC, dPutPar, putPar_two, dZip2, zip2D_lst, zip2D_tup, dPut, isBD_bl, isNotBD_bl, dNewO, dPutO, dSortedO, putKD_int, dPar3O, dParO2, par3O_two, parO2_one, minLD_lst, dKeysW, rdPairs_nil, rdPairs_cons, onPair_ii, inTD_lst, gTl, dAugS, dZip3, zip3D_tup, zip3L_cons, zip3L_nil, revD_lst])
local macro_rules | `(tactic| walk_at "dd") => `(tactic| (walk_at "d1"; repeat (with_reducible (refine then_intro ?_); walk_at "d1")))
def rd_law_is_number_v2 : DTS :=
  (dRet (dAnd (dIsi isIntD (dVar 0)) (dNot (dIsi isBoolD (dVar 0)))))
def sp_law_is_number_v2 : Lay.Spec := fun ds R => match ds with | [d] => R (.bool (isIntD d && !isBoolD d)) | _ => False
theorem ok_law_is_number_v2 : ∀ ds R, sp_law_is_number_v2 ds R → rd_law_is_number_v2 (fnE R) (startE 1 ds) := by
  intro ds R h
  unfold sp_law_is_number_v2 at h
  split at h
  · rename_i d
    unfold rd_law_is_number_v2
    walk_at "dd"
    cases e : isIntD d
    · rw [e] at h; exact h
    · rw [e] at h; exact h
  · exact h.elim
theorem spx_law_is_number_v2 {d : D} {R : D → Prop} : sp_law_is_number_v2 [d] R = R (.bool (isIntD d && !isBoolD d)) := rfl
local macro_rules | `(tactic| walk_at "d1") => `(tactic| try simp only [dSeq, dSkip, dPass, dRet, dRetN, dDrop, dCond, dAsg, gNm, gTp, dOwn, dOwnL, dPar, dAug, dApp, dExt, dFrz, dFor, dLc, dBreak, dCont, dVar, dC, dOp, dT, dIsi, dNeg, dNot, dTNot, dAnd, dOr, dTAnd, dTOr, dIf, dCh, dNil, dCons, dTup, dLst, dIxO, dB, dCall, dCallW, dItems, dRng1, dRng2, dYes, fnE, startE, startW, startS, dLenO, dLenS, dIxS, dSl, dPt, dNo, wipeE, addD_int, addD_str, addD_tup, addD_lst, subD_int, mulD_int, mulD_tup, mulD_lst, fdivD_int, modD_int, powD_int, shlD_int, shrD_int, andD_int, ltD_int, leD_int, gtD_int, geD_int, eqD_ap, neD_ap, isD_ap, isNotD_ap, isNon_none, isNon_int, isNon_bool, isNon_str, isNon_tup, isNon_lst, isInt_none, isInt_int, isInt_bool, isInt_str, isInt_tup, isInt_lst, isBool_none, isBool_int, isBool_bool, isBool_str, isBool_tup, isBool_lst, isStr_none, isStr_int, isStr_bool, isStr_str, isStr_tup, isStr_lst, isTup_none, isTup_int, isTup_bool, isTup_str, isTup_tup, isTup_lst, isLst_lst, Cnd_true, Cnd_false, Cnd_not, Cnd_dec, asB_bool, forall_const, true_implies, false_implies, implies_true, decide_true, decide_false, Classical.not_not, negD_int, notD_bool, onVal_val, onOwn_own, onDic_dic, onScr_scr, onWv_wv, onInt_int, onTup_tup, onLst_lst, onItems_lst, onItems_tup, frz1_own, frz1_val, frz1_un, ixD_lst, ixD_tup, ixL_int, optD_some, optI_some, absD_int, intD_int, intD_bool, lenD_lst, lenD_tup, lenD_str, tupleD_lst, tupleD_tup, listD_lst, listD_tup, min2D_int, max2D_int, sumD_ints, allD_bls, anyD_bls, slD_lst, slD_tup, slD_str, gNl_nil, gCs_cons, par2_two, seq1_lst, seq1_tup, rng1D_int, rng2D_int, gt_z, gt_s, sp_next_int, set_z, set_s, List.map_cons, List.map_nil, List.length_cons, List.length_nil, List.cons_append, List.nil_append, List.replicate, Nat.reduceAdd, Nat.reduceSub, Nat.zero_add, shaped_int, shaped_bool, shaped_none, shaped_listI, shaped_tupI, shaped_nilL, shaped_nilT, eqv_int, eqv_bool, eqv_str, eqv_none, eqv_list_nil, List.isEmpty_nil, List.isEmpty_cons, Bool.true_eq_false, Bool.false_eq_true, decide_eq_true_eq, and_self, true_and, and_true, not_dec, Bool.not_eq_true', decide_eq_false_iff_not, atI_0, atI_1, atI_2, ite_true, ite_false, if_true, if_false, reduceIte, Bool.not_true, Bool.not_false, not_true_eq_false, not_false_eq_true, List.set_cons_zero, List.set_cons_succ, dPar3, dRev, par3_three, sortedD_ints, revD_tup, two_nat, one_nat, three_nat, dCh3, dOwnC, dPutPar, putPar_two, dZip2, zip2D_lst, zip2D_tup, dPut, isBD_bl, isNotBD_bl, dNewO, dPutO, dSortedO, putKD_int, dPar3O, dParO2, par3O_two, parO2_one, minLD_lst, dKeysW, rdPairs_nil, rdPairs_cons, onPair_ii, inTD_lst, gTl, dAugS, dZip3, zip3D_tup, zip3L_cons, zip3L_nil, revD_lst, spx_law_is_number_v2])
local macro_rules | `(tactic| walk_at "dd") => `(tactic| (walk_at "d1"; repeat (with_reducible (refine then_intro ?_); walk_at "d1")))
def rd_law_is_numbers : DTS :=
  (dRet (dAnd (dIsi isTupD (dVar 0)) (dAnd (dOp eqD (dB lenD (dCons (dVar 0) dNil)) (dVar 1)) (dOp eqD (dLc true (dItems (dVar 0)) (gNm 2) (dTNot (dT (dCall sp_law_is_number_v2 (dCons (dVar 2) dNil)))) (dVar 2) [2]) (dLst dNil)))))
def nonNum (d : D) : Bool := !(isIntD d && !isBoolD d)
def sp_law_is_numbers : Lay.Spec := fun ds R => match ds with
  | [.tuple es, .int many] => ((es.length : Int) ≠ many → R (.bool false)) ∧ ((es.length : Int) = many → SeqAt.shaped (.list (es.filter nonNum)) = true ∧ R (.bool (es.filter nonNum).isEmpty))
  | [d, .int many] => isTupD d = false ∧ R (.bool false)
  | _ => False
theorem num_filter (ns : List Int) : (ns.map PyData.int).filter nonNum = [] := by
  induction ns with
  | nil => rfl
  | cons n ns ih => rw [List.map_cons, List.filter_cons_of_neg (show ¬ (false = true) from Bool.false_ne_true), ih]
theorem is_numbers_ok {es : List D} {many : Int} {R : D → Prop} (h : ∃ ns : List Int, es = ns.map .int ∧ (ns.length : Int) = many) (k : R (.bool true)) : sp_law_is_numbers [.tuple es, .int many] R := by
  obtain ⟨ns, rfl, rfl⟩ := h
  refine ⟨fun z => absurd (by rw [List.length_map]) z, fun _ => ?_⟩
  rw [num_filter]
  exact ⟨shaped_nilL, k⟩
theorem eqv_nil (l : List D) : PyData.eqv (.list l) (.list []) = l.isEmpty := by cases l <;> rfl
theorem ok_law_is_numbers : ∀ ds R, sp_law_is_numbers ds R → rd_law_is_numbers (fnE R) (startE 3 ds) := by
  intro ds R h
  unfold sp_law_is_numbers at h
  split at h
  · rename_i es many
    obtain ⟨h1, h2⟩ := h
    unfold rd_law_is_numbers
    walk_at "dd"
    refine ⟨fun z => ?_, fun z => h1 z⟩
    obtain ⟨h3, h4⟩ := h2 z
    refine lc_fun (fun d => if nonNum d then some d else none) (fun z => nomatch z) (fun d hd P hP => ?_) ?_
    · walk_at "dd"
      unfold nonNum at hP
      cases e : (isIntD d && !isBoolD d)
      · rw [e] at hP; exact hP
      · rw [e] at hP; exact hP
    · have e : es.filterMap (fun d => if nonNum d then some d else none) = es.filter nonNum := by
        clear h1 h2 h3 h4 z
        induction es with
        | nil => rfl
        | cons d ds ih =>
          cases e : nonNum d
          · rw [List.filterMap_cons_none (by simp [e]), List.filter_cons_of_neg (by simp [e]), ih]
          · rw [List.filterMap_cons_some (by simp [e] : _ = some d), List.filter_cons_of_pos e, ih]
      rw [e]
      walk_at "dd"
      exact ⟨h3, h4⟩
  · rename_i d many hne
    obtain ⟨h1, h2⟩ := h
    unfold rd_law_is_numbers
    walk_at "dd"
    rw [h1]
    exact h2
  · exact h.elim
local macro_rules | `(tactic| walk_at "d1") => `(tactic| try simp only [dSeq, dSkip, dPass, dRet, dRetN, dDrop, dCond, dAsg, gNm, gTp, dOwn, dOwnL, dPar, dAug, dApp, dExt, dFrz, dFor, dLc, dBreak, dCont, dVar, dC, dOp, dT, dIsi, dNeg, dNot, dTNot, dAnd, dOr, dTAnd, dTOr, dIf, dCh, dNil, dCons, dTup, dLst, dIxO, dB, dCall, dCallW, dItems, dRng1, dRng2, dYes, fnE, startE, startW, startS, dLenO, dLenS, dIxS, dSl, dPt, dNo, wipeE, addD_int, addD_str, addD_tup, addD_lst, subD_int, mulD_int, mulD_tup, mulD_lst, fdivD_int, modD_int, powD_int, shlD_int, shrD_int, andD_int, ltD_int, leD_int, gtD_int, geD_int, eqD_ap, neD_ap, isD_ap, isNotD_ap, isNon_none, isNon_int, isNon_bool, isNon_str, isNon_tup, isNon_lst, isInt_none, isInt_int, isInt_bool, isInt_str, isInt_tup, isInt_lst, isBool_none, isBool_int, isBool_bool, isBool_str, isBool_tup, isBool_lst, isStr_none, isStr_int, isStr_bool, isStr_str, isStr_tup, isStr_lst, isTup_none, isTup_int, isTup_bool, isTup_str, isTup_tup, isTup_lst, isLst_lst, Cnd_true, Cnd_false, Cnd_not, Cnd_dec, asB_bool, forall_const, true_implies, false_implies, implies_true, decide_true, decide_false, Classical.not_not, negD_int, notD_bool, onVal_val, onOwn_own, onDic_dic, onScr_scr, onWv_wv, onInt_int, onTup_tup, onLst_lst, onItems_lst, onItems_tup, frz1_own, frz1_val, frz1_un, ixD_lst, ixD_tup, ixL_int, optD_some, optI_some, absD_int, intD_int, intD_bool, lenD_lst, lenD_tup, lenD_str, tupleD_lst, tupleD_tup, listD_lst, listD_tup, min2D_int, max2D_int, sumD_ints, allD_bls, anyD_bls, slD_lst, slD_tup, slD_str, gNl_nil, gCs_cons, par2_two, seq1_lst, seq1_tup, rng1D_int, rng2D_int, gt_z, gt_s, sp_next_int, set_z, set_s, List.map_cons, List.map_nil, List.length_cons, List.length_nil, List.cons_append, List.nil_append, List.replicate, Nat.reduceAdd, Nat.reduceSub, Nat.zero_add, shaped_int, shaped_bool, shaped_none, shaped_listI, shaped_tupI, shaped_nilL, shaped_nilT, eqv_int, eqv_bool, eqv_str, eqv_none, eqv_list_nil, List.isEmpty_nil, List.isEmpty_cons, Bool.true_eq_false, Bool.false_eq_true, decide_eq_true_eq, and_self, true_and, and_true, not_dec, Bool.not_eq_true', decide_eq_false_iff_not, atI_0, atI_1, atI_2, ite_true, ite_false, if_true, if_false, reduceIte, Bool.not_true, Bool.not_false, not_true_eq_false, not_false_eq_true, List.set_cons_zero, List.set_cons_succ, dPar3, dRev, par3_three, sortedD_ints, revD_tup, two_nat, one_nat, three_nat, dCh3, dOwnC, dPutPar, putPar_two, dZip2, zip2D_lst, zip2D_tup, dPut, isBD_bl, isNotBD_bl, dNewO, dPutO, dSortedO, putKD_int, dPar3O, dParO2, par3O_two, parO2_one, minLD_lst, dKeysW, rdPairs_nil, rdPairs_cons, onPair_ii, inTD_lst, gTl, dAugS, dZip3, zip3D_tup, zip3L_cons, zip3L_nil, revD_lst, spx_law_common_v2, spx_law_lone_t, spx_law_lone_l])
local macro_rules | `(tactic| walk_at "dd") => `(tactic| (walk_at "d1"; repeat (with_reducible (refine then_intro ?_); walk_at "d1")))
def rd_signed : DTS :=
  (dSeq (dAsg (dLc true (dItems (dVar 0)) (gNm 2) (dT (dOp neD (dVar 2) (dC (.int 0)))) (dVar 2) [2]) (gNm 1)) (dRet (dIf (dTAnd (dT (dOp neD (dVar 1) (dLst dNil))) (dT (dOp ltD (dOp ixD (dVar 1) (dC (.int 0))) (dC (.int 0))))) (dB tupleD (dCons (dLc true (dItems (dVar 0)) (gNm 2) dYes (dNeg (dVar 2)) [2]) dNil)) (dB tupleD (dCons (dVar 0) dNil)))))
def sp_signed : Lay.Spec := fun ds R => match ds with
  | [.tuple [.int x, .int y, .int z]] => (¬ (x = 0 ∧ y = 0 ∧ z = 0)) ∧ R (.tuple ([x, y, z].map fun n => .int (sgnT x y z * n)))
  | _ => False
theorem spx_signed {x y z : Int} {R : D → Prop} : sp_signed [.tuple [.int x, .int y, .int z]] R = ((¬ (x = 0 ∧ y = 0 ∧ z = 0)) ∧ R (.tuple ([x, y, z].map fun n => .int (sgnT x y z * n)))) := rfl
theorem ok_signed : ∀ ds R, sp_signed ds R → rd_signed (fnE R) (startE 3 ds) := by
  intro ds R H
  unfold sp_signed at H
  split at H
  · rename_i x y z
    obtain ⟨nz, H⟩ := H
    obtain ⟨f, r, ef, es⟩ := sgn_fst nz
    have f0 : f ≠ 0 := by
      have : f ∈ [x, y, z].filter (fun n => decide (n ≠ 0)) := by rw [ef]; exact List.mem_cons_self
      exact of_decide_eq_true (List.mem_filter.mp this).2
    unfold rd_signed
    walk_at "dd"
    refine lc_ints (ns := [x, y, z]) (fun n => decide (n ≠ 0)) (fun w => nomatch w) (fun n hn P hP => ?_) ?_
    · walk_at "dd"
      refine ⟨fun w => ?_, fun w => ?_⟩
      · rw [decide_eq_false (fun q => q w)] at hP
        exact hP
      · rw [decide_eq_true w] at hP
        exact hP
    · rw [ef]
      walk_at "dd"
      refine ⟨shaped_listI (f :: r), fun w => ?_, fun w => ?_⟩
      · refine lc_map (xs := [x, y, z]) (f := PyData.int) (k := PyData.int) (p := fun n => some (sgnT x y z * n)) (fun w => nomatch w) (fun n hn P hP => ?_) ?_
        · walk_at "dd"
          rw [es, if_neg (by omega)] at hP
          rw [show -n = -1 * n by omega]
          exact hP
        · exact H
      · rw [es, if_pos (by omega)] at H
        simp only [Int.one_mul] at H
        exact H
  · exact H.elim
local macro_rules | `(tactic| walk_at "d1") => `(tactic| try simp only [dSeq, dSkip, dPass, dRet, dRetN, dDrop, dCond, dAsg, gNm, gTp, dOwn, dOwnL, dPar, dAug, dApp, dExt, dFrz, dFor, dLc, dBreak, dCont, dVar, dC, dOp, dT, dIsi, dNeg, dNot, dTNot, dAnd, dOr, dTAnd, dTOr, dIf, dCh, dNil, dCons, dTup, dLst, dIxO, dB, dCall, dCallW, dItems, dRng1, dRng2, dYes, fnE, startE, startW, startS, dLenO, dLenS, dIxS, dSl, dPt, dNo, wipeE, addD_int, addD_str, addD_tup, addD_lst, subD_int, mulD_int, mulD_tup, mulD_lst, fdivD_int, modD_int, powD_int, shlD_int, shrD_int, andD_int, ltD_int, leD_int, gtD_int, geD_int, eqD_ap, neD_ap, isD_ap, isNotD_ap, isNon_none, isNon_int, isNon_bool, isNon_str, isNon_tup, isNon_lst, isInt_none, isInt_int, isInt_bool, isInt_str, isInt_tup, isInt_lst, isBool_none, isBool_int, isBool_bool, isBool_str, isBool_tup, isBool_lst, isStr_none, isStr_int, isStr_bool, isStr_str, isStr_tup, isStr_lst, isTup_none, isTup_int, isTup_bool, isTup_str, isTup_tup, isTup_lst, isLst_lst, Cnd_true, Cnd_false, Cnd_not, Cnd_dec, asB_bool, forall_const, true_implies, false_implies, implies_true, decide_true, decide_false, Classical.not_not, negD_int, notD_bool, onVal_val, onOwn_own, onDic_dic, onScr_scr, onWv_wv, onInt_int, onTup_tup, onLst_lst, onItems_lst, onItems_tup, frz1_own, frz1_val, frz1_un, ixD_lst, ixD_tup, ixL_int, optD_some, optI_some, absD_int, intD_int, intD_bool, lenD_lst, lenD_tup, lenD_str, tupleD_lst, tupleD_tup, listD_lst, listD_tup, min2D_int, max2D_int, sumD_ints, allD_bls, anyD_bls, slD_lst, slD_tup, slD_str, gNl_nil, gCs_cons, par2_two, seq1_lst, seq1_tup, rng1D_int, rng2D_int, gt_z, gt_s, sp_next_int, set_z, set_s, List.map_cons, List.map_nil, List.length_cons, List.length_nil, List.cons_append, List.nil_append, List.replicate, Nat.reduceAdd, Nat.reduceSub, Nat.zero_add, shaped_int, shaped_bool, shaped_none, shaped_listI, shaped_tupI, shaped_nilL, shaped_nilT, eqv_int, eqv_bool, eqv_str, eqv_none, eqv_list_nil, List.isEmpty_nil, List.isEmpty_cons, Bool.true_eq_false, Bool.false_eq_true, decide_eq_true_eq, and_self, true_and, and_true, not_dec, Bool.not_eq_true', decide_eq_false_iff_not, atI_0, atI_1, atI_2, ite_true, ite_false, if_true, if_false, reduceIte, Bool.not_true, Bool.not_false, not_true_eq_false, not_false_eq_true, List.set_cons_zero, List.set_cons_succ, dPar3, dRev, par3_three, sortedD_ints, revD_tup, two_nat, one_nat, three_nat, dCh3, dOwnC, dPutPar, putPar_two, dZip2, zip2D_lst, zip2D_tup, dPut, isBD_bl, isNotBD_bl, dNewO, dPutO, dSortedO, putKD_int, dPar3O, dParO2, par3O_two, parO2_one, minLD_lst, dKeysW, rdPairs_nil, rdPairs_cons, onPair_ii, inTD_lst, gTl, dAugS, dZip3, zip3D_tup, zip3L_cons, zip3L_nil, revD_lst, spx_common])
local macro_rules | `(tactic| walk_at "dd") => `(tactic| (walk_at "d1"; repeat (with_reducible (refine then_intro ?_); walk_at "d1")))
def rd_all_common_b1 : DTS :=
  (dAsg (dCall sp_common (dCons (dVar 1) (dCons (dVar 2) dNil))) (gNm 1))
def rd_all_common : DTS :=
  (dSeq (dAsg (dC (.int 0)) (gNm 1)) (dSeq (dFor (dItems (dVar 0)) (gNm 2) rd_all_common_b1) (dRet (dVar 1))))
def gcdL (ns : List Int) : Nat := ns.foldl (fun g n => Nat.gcd g n.natAbs) 0
theorem gcdL_snoc (l : List Int) (n : Int) : gcdL (l ++ [n]) = Nat.gcd (gcdL l) n.natAbs := by
  unfold gcdL
  rw [List.foldl_append]
  rfl
def sp_all_common : Lay.Spec := fun ds R => match ds with
  | [.tuple es] => ∃ ns : List Int, es = ns.map .int ∧ R (.int (gcdL ns : Nat))
  | [.list es] => ∃ ns : List Int, es = ns.map .int ∧ R (.int (gcdL ns : Nat))
  | _ => False
theorem ok_all_common : ∀ ds R, sp_all_common ds R → rd_all_common (fnE R) (startE 3 ds) := by
  intro ds R h
  unfold sp_all_common at h
  split at h
  · obtain ⟨ns, rfl, h⟩ := h
    unfold rd_all_common
    walk_at "dd"
    refine for_by (fun (s : Nat × Sl) => [.val (.tuple (ns.map .int)), .val (.int s.1), s.2]) (fun t s => s.1 = gcdL (ns.take t)) (0, .un) rfl rfl ?_ ?_
    · rintro t d hd ⟨g, u⟩ hg bk
      simp only at hg
      rw [List.getElem?_map] at hd
      obtain ⟨n, hn, rfl⟩ := Option.map_eq_some_iff.mp hd
      unfold rd_all_common_b1
      walk_at "dd"
      refine ⟨(Int.gcd (g : Int) n, _), rfl, ?_⟩
      rw [take_snoc hn, gcdL_snoc, ← hg]
      rfl
    · rintro ⟨g, u⟩ hg
      simp only [List.length_map, List.take_length] at hg
      walk_at "dd"
      rw [hg]
      exact h
  · obtain ⟨ns, rfl, h⟩ := h
    unfold rd_all_common
    walk_at "dd"
    refine for_by (fun (s : Nat × Sl) => [.val (.list (ns.map .int)), .val (.int s.1), s.2]) (fun t s => s.1 = gcdL (ns.take t)) (0, .un) rfl rfl ?_ ?_
    · rintro t d hd ⟨g, u⟩ hg bk
      simp only at hg
      rw [List.getElem?_map] at hd
      obtain ⟨n, hn, rfl⟩ := Option.map_eq_some_iff.mp hd
      unfold rd_all_common_b1
      walk_at "dd"
      refine ⟨(Int.gcd (g : Int) n, _), rfl, ?_⟩
      rw [take_snoc hn, gcdL_snoc, ← hg]
      rfl
    · rintro ⟨g, u⟩ hg
      simp only [List.length_map, List.take_length] at hg
      walk_at "dd"
      rw [hg]
      exact h
  · exact h.elim
local macro_rules | `(tactic| walk_at "d1") => `(tactic| try simp only [dSeq, dSkip, dPass, dRet, dRetN, dDrop, dCond, dAsg, gNm, gTp, dOwn, dOwnL, dPar, dAug, dApp, dExt, dFrz, dFor, dLc, dBreak, dCont, dVar, dC, dOp, dT, dIsi, dNeg, dNot, dTNot, dAnd, dOr, dTAnd, dTOr, dIf, dCh, dNil, dCons, dTup, dLst, dIxO, dB, dCall, dCallW, dItems, dRng1, dRng2, dYes, fnE, startE, startW, startS, dLenO, dLenS, dIxS, dSl, dPt, dNo, wipeE, addD_int, addD_str, addD_tup, addD_lst, subD_int, mulD_int, mulD_tup, mulD_lst, fdivD_int, modD_int, powD_int, shlD_int, shrD_int, andD_int, ltD_int, leD_int, gtD_int, geD_int, eqD_ap, neD_ap, isD_ap, isNotD_ap, isNon_none, isNon_int, isNon_bool, isNon_str, isNon_tup, isNon_lst, isInt_none, isInt_int, isInt_bool, isInt_str, isInt_tup, isInt_lst, isBool_none, isBool_int, isBool_bool, isBool_str, isBool_tup, isBool_lst, isStr_none, isStr_int, isStr_bool, isStr_str, isStr_tup, isStr_lst, isTup_none, isTup_int, isTup_bool, isTup_str, isTup_tup, isTup_lst, isLst_lst, Cnd_true, Cnd_false, Cnd_not, Cnd_dec, asB_bool, forall_const, true_implies, false_implies, implies_true, decide_true, decide_false, Classical.not_not, negD_int, notD_bool, onVal_val, onOwn_own, onDic_dic, onScr_scr, onWv_wv, onInt_int, onTup_tup, onLst_lst, onItems_lst, onItems_tup, frz1_own, frz1_val, frz1_un, ixD_lst, ixD_tup, ixL_int, optD_some, optI_some, absD_int, intD_int, intD_bool, lenD_lst, lenD_tup, lenD_str, tupleD_lst, tupleD_tup, listD_lst, listD_tup, min2D_int, max2D_int, sumD_ints, allD_bls, anyD_bls, slD_lst, slD_tup, slD_str, gNl_nil, gCs_cons, par2_two, seq1_lst, seq1_tup, rng1D_int, rng2D_int, gt_z, gt_s, sp_next_int, set_z, set_s, List.map_cons, List.map_nil, List.length_cons, List.length_nil, List.cons_append, List.nil_append, List.replicate, Nat.reduceAdd, Nat.reduceSub, Nat.zero_add, shaped_int, shaped_bool, shaped_none, shaped_listI, shaped_tupI, shaped_nilL, shaped_nilT, eqv_int, eqv_bool, eqv_str, eqv_none, eqv_list_nil, List.isEmpty_nil, List.isEmpty_cons, Bool.true_eq_false, Bool.false_eq_true, decide_eq_true_eq, and_self, true_and, and_true, not_dec, Bool.not_eq_true', decide_eq_false_iff_not, atI_0, atI_1, atI_2, ite_true, ite_false, if_true, if_false, reduceIte, Bool.not_true, Bool.not_false, not_true_eq_false, not_false_eq_true, List.set_cons_zero, List.set_cons_succ, dPar3, dRev, par3_three, sortedD_ints, revD_tup, two_nat, one_nat, three_nat, dCh3, dOwnC, dPutPar, putPar_two, dZip2, zip2D_lst, zip2D_tup, dPut, isBD_bl, isNotBD_bl, dNewO, dPutO, dSortedO, putKD_int, dPar3O, dParO2, par3O_two, parO2_one, minLD_lst, dKeysW, rdPairs_nil, rdPairs_cons, onPair_ii, inTD_lst, gTl, dAugS, dZip3, zip3D_tup, zip3L_cons, zip3L_nil, revD_lst, spx_common])
local macro_rules | `(tactic| walk_at "dd") => `(tactic| (walk_at "d1"; repeat (with_reducible (refine then_intro ?_); walk_at "d1")))
def rd_lowest : DTS :=
  (dSeq (dAsg (dCall sp_all_common (dCons (dVar 0) dNil)) (gNm 1)) (dRet (dB tupleD (dCons (dLc true (dItems (dVar 0)) (gNm 2) dYes (dOp fdivD (dVar 2) (dVar 1)) [2]) dNil))))
def lowL (ns : List Int) : List Int := ns.map fun n => n / (gcdL ns : Int)
def sp_lowest : Lay.Spec := fun ds R => match ds with
  | [.tuple xs] => ∃ ns : List Int, xs = ns.map .int ∧ ((∃ n ∈ ns, n ≠ 0) ∧ ns.length ≤ 1000 ∧ ∀ n ∈ ns, n.natAbs < 2 ^ 4000) ∧ R (.tuple ((lowL ns).map .int))
  | _ => False
theorem gcdL_dvd : ∀ ns : List Int, ∀ n ∈ ns, gcdL ns ∣ n.natAbs := by
  refine snoc_ind (fun n h => nomatch h) fun ns m ih n hn => ?_
  rw [gcdL_snoc]
  rcases List.mem_append.mp hn with h | h
  · exact Nat.dvd_trans (Nat.gcd_dvd_left _ _) (ih n h)
  · rw [List.mem_singleton.mp h]
    exact Nat.gcd_dvd_right _ _
theorem gcdL_pos {ns : List Int} (h : ∃ n ∈ ns, n ≠ 0) : 0 < gcdL ns := by
  obtain ⟨n, hn, n0⟩ := h
  have := gcdL_dvd ns n hn
  rcases Nat.eq_zero_or_pos (gcdL ns) with e | e
  · rw [e] at this
    have := Nat.eq_zero_of_zero_dvd this
    omega
  · exact e
theorem ok_lowest : ∀ ds R, sp_lowest ds R → rd_lowest (fnE R) (startE 3 ds) := by
  intro ds R h
  unfold sp_lowest at h
  split at h
  · obtain ⟨ns, rfl, ⟨hn, hl, hb⟩, h⟩ := h
    have g0 := gcdL_pos hn
    have gb : gcdL ns < 2 ^ 4000 := by
      obtain ⟨n, h1, h2⟩ := hn
      have h3 := Nat.le_of_dvd (by omega) (gcdL_dvd ns n h1)
      have := hb n h1
      omega
    have hs : 5000 < sizeLine := by decide
    unfold rd_lowest
    walk_at "dd"
    refine ⟨ns, rfl, then_intro ?_⟩
    walk_at "dd"
    refine lc_map (f := PyData.int) (k := PyData.int) (p := fun n => some (n / (gcdL ns : Int))) (fun z => nomatch z) (fun n hn P hP => ?_) ?_
    · have nb := hb n hn
      walk_at "dd"
      rw [fdiv_pos _ (by omega)]
      exact ⟨divOk (by omega) (n := 4000) (by omega) (by decide), hP⟩
    · rw [List.filterMap_eq_map']
      exact h
  · exact h.elim
theorem spx_lowest {xs : List D} {R : D → Prop} : sp_lowest [.tuple xs] R = ∃ ns : List Int, xs = ns.map .int ∧ ((∃ n ∈ ns, n ≠ 0) ∧ ns.length ≤ 1000 ∧ ∀ n ∈ ns, n.natAbs < 2 ^ 4000) ∧ R (.tuple ((lowL ns).map .int)) := rfl
local macro_rules | `(tactic| walk_at "d1") => `(tactic| try simp only [dSeq, dSkip, dPass, dRet, dRetN, dDrop, dCond, dAsg, gNm, gTp, dOwn, dOwnL, dPar, dAug, dApp, dExt, dFrz, dFor, dLc, dBreak, dCont, dVar, dC, dOp, dT, dIsi, dNeg, dNot, dTNot, dAnd, dOr, dTAnd, dTOr, dIf, dCh, dNil, dCons, dTup, dLst, dIxO, dB, dCall, dCallW, dItems, dRng1, dRng2, dYes, fnE, startE, startW, startS, dLenO, dLenS, dIxS, dSl, dPt, dNo, wipeE, addD_int, addD_str, addD_tup, addD_lst, subD_int, mulD_int, mulD_tup, mulD_lst, fdivD_int, modD_int, powD_int, shlD_int, shrD_int, andD_int, ltD_int, leD_int, gtD_int, geD_int, eqD_ap, neD_ap, isD_ap, isNotD_ap, isNon_none, isNon_int, isNon_bool, isNon_str, isNon_tup, isNon_lst, isInt_none, isInt_int, isInt_bool, isInt_str, isInt_tup, isInt_lst, isBool_none, isBool_int, isBool_bool, isBool_str, isBool_tup, isBool_lst, isStr_none, isStr_int, isStr_bool, isStr_str, isStr_tup, isStr_lst, isTup_none, isTup_int, isTup_bool, isTup_str, isTup_tup, isTup_lst, isLst_lst, Cnd_true, Cnd_false, Cnd_not, Cnd_dec, asB_bool, forall_const, true_implies, false_implies, implies_true, decide_true, decide_false, Classical.not_not, negD_int, notD_bool, onVal_val, onOwn_own, onDic_dic, onScr_scr, onWv_wv, onInt_int, onTup_tup, onLst_lst, onItems_lst, onItems_tup, frz1_own, frz1_val, frz1_un, ixD_lst, ixD_tup, ixL_int, optD_some, optI_some, absD_int, intD_int, intD_bool, lenD_lst, lenD_tup, lenD_str, tupleD_lst, tupleD_tup, listD_lst, listD_tup, min2D_int, max2D_int, sumD_ints, allD_bls, anyD_bls, slD_lst, slD_tup, slD_str, gNl_nil, gCs_cons, par2_two, seq1_lst, seq1_tup, rng1D_int, rng2D_int, gt_z, gt_s, sp_next_int, set_z, set_s, List.map_cons, List.map_nil, List.length_cons, List.length_nil, List.cons_append, List.nil_append, List.replicate, Nat.reduceAdd, Nat.reduceSub, Nat.zero_add, shaped_int, shaped_bool, shaped_none, shaped_listI, shaped_tupI, shaped_nilL, shaped_nilT, eqv_int, eqv_bool, eqv_str, eqv_none, eqv_list_nil, List.isEmpty_nil, List.isEmpty_cons, Bool.true_eq_false, Bool.false_eq_true, decide_eq_true_eq, and_self, true_and, and_true, not_dec, Bool.not_eq_true', decide_eq_false_iff_not, atI_0, atI_1, atI_2, ite_true, ite_false, if_true, if_false, reduceIte, Bool.not_true, Bool.not_false, not_true_eq_false, not_false_eq_true, List.set_cons_zero, List.set_cons_succ, dPar3, dRev, par3_three, sortedD_ints, revD_tup, two_nat, one_nat, three_nat, dCh3, dOwnC, dPutPar, putPar_two, dZip2, zip2D_lst, zip2D_tup, dPut, isBD_bl, isNotBD_bl, dNewO, dPutO, dSortedO, putKD_int, dPar3O, dParO2, par3O_two, parO2_one, minLD_lst, dKeysW, rdPairs_nil, rdPairs_cons, onPair_ii, inTD_lst, gTl, dAugS, dZip3, zip3D_tup, zip3L_cons, zip3L_nil, revD_lst, spx_law_common_v2, spx_law_lone_t, spx_law_lone_l, spx_signed, spx_common, spx_lowest])
local macro_rules | `(tactic| walk_at "dd") => `(tactic| (walk_at "d1"; repeat (with_reducible (refine then_intro ?_); walk_at "d1")))
def rd_at : DTS :=
  (dSeq (dAsg (dB tupleD (dCons (dLc true (dItems (dVar 0)) (gTp 3 (gCs (gNm 4) (gCs (gNm 5) (gCs (gNm 6) gNl)))) dYes (dOp addD (dOp addD (dOp mulD (dOp mulD (dVar 4) (dVar 1)) (dVar 1)) (dOp mulD (dOp mulD (dVar 5) (dVar 1)) (dVar 2))) (dOp mulD (dOp mulD (dVar 6) (dVar 2)) (dVar 2))) [4, 5, 6]) dNil)) (gNm 3)) (dRet (dIf (dT (dOp gtD (dCall sp_all_common (dCons (dVar 3) dNil)) (dC (.int 0)))) (dCall sp_signed (dCons (dCall sp_lowest (dCons (dVar 3) dNil)) dNil)) (dTup (dCons (dC (.int 0)) (dCons (dC (.int 0)) (dCons (dC (.int 0)) dNil)))))))
def sp_at : Lay.Spec := fun ds R => match ds with
  | [.tuple [.tuple [.int f0, .int g0, .int h0], .tuple [.int f1, .int g1, .int h1], .tuple [.int f2, .int g2, .int h2]], .int s, .int t] => ((RowB (f0, g0, h0) ∧ RowB (f1, g1, h1) ∧ RowB (f2, g2, h2)) ∧ s.natAbs < 2 ^ 40 ∧ t.natAbs < 2 ^ 40) ∧ R (loneD (loneT (rowV s t (f0, g0, h0)) (rowV s t (f1, g1, h1)) (rowV s t (f2, g2, h2))))
  | _ => False
theorem gcdL3 (x y z : Int) : gcdL [x, y, z] = gcdT x y z := by
  show Nat.gcd (Nat.gcd (Nat.gcd 0 x.natAbs) y.natAbs) z.natAbs = Nat.gcd (Int.gcd x y) z.natAbs
  rw [Nat.gcd_zero_left]
  rfl
theorem sgn_div {x y z : Int} (nz : ¬ (x = 0 ∧ y = 0 ∧ z = 0)) : sgnT (x / gcdT x y z) (y / gcdT x y z) (z / gcdT x y z) = sgnT x y z ∧ ¬ (x / (gcdT x y z : Int) = 0 ∧ y / (gcdT x y z : Int) = 0 ∧ z / (gcdT x y z : Int) = 0) := by
  have g0 : gcdT x y z ≠ 0 := fun w => nz (gcdT_zero.mp w)
  obtain ⟨h1, h2, h3⟩ := gcdT_dvd x y z
  have q1 := Int.mul_ediv_cancel' h1
  have q2 := Int.mul_ediv_cancel' h2
  have q3 := Int.mul_ediv_cancel' h3
  have gi : 0 < (gcdT x y z : Int) := by omega
  have fx := pos_mul_iff (x := x / gcdT x y z) gi
  have fy := pos_mul_iff (x := y / gcdT x y z) gi
  have fz := pos_mul_iff (x := z / gcdT x y z) gi
  rw [q1] at fx
  rw [q2] at fy
  rw [q3] at fz
  generalize gcdT x y z = d at *
  refine ⟨?_, by omega⟩
  unfold sgnT
  split <;> split <;> omega
theorem ok_at : ∀ ds R, sp_at ds R → rd_at (fnE R) (startE 7 ds) := by
  intro ds R H
  unfold sp_at at H
  split at H
  · rename_i f0 g0 h0 f1 g1 h1 f2 g2 h2 s t
    obtain ⟨⟨⟨r0, r1, r2⟩, hs, ht⟩, H⟩ := H
    unfold rd_at
    walk_at "dd"
    refine lc_map (xs := [(f0, g0, h0), (f1, g1, h1), (f2, g2, h2)]) (f := rowD) (k := PyData.int) (p := fun r => some (rowV s t r)) (fun w => nomatch w) (fun r hr P hP => ?_) ?_
    · have rb : RowB r := by
        simp only [List.mem_cons, List.not_mem_nil, or_false] at hr
        rcases hr with rfl | rfl | rfl <;> assumption
      obtain ⟨⟨k1, k2⟩, ⟨k3, k4⟩, ⟨k5, k6⟩, _⟩ := row_bound rb hs ht
      unfold rowD
      walk_at "dd"
      exact ⟨k1, k2, k3, k4, k5, k6, hP⟩
    · have b0 := (row_bound r0 hs ht).2.2.2
      have b1 := (row_bound r1 hs ht).2.2.2
      have b2 := (row_bound r2 hs ht).2.2.2
      generalize ev : ([(f0, g0, h0), (f1, g1, h1), (f2, g2, h2)].filterMap fun r => some (rowV s t r)) = vs
      have ev' : vs = [rowV s t (f0, g0, h0), rowV s t (f1, g1, h1), rowV s t (f2, g2, h2)] := ev.symm
      subst ev'
      generalize rowV s t (f0, g0, h0) = x at *
      generalize rowV s t (f1, g1, h1) = y at *
      generalize rowV s t (f2, g2, h2) = z at *
      walk_at "dd"
      refine ⟨[x, y, z], rfl, ?_⟩
      rw [gcdL3]
      walk_at "dd"
      have p : 2 ^ 200 ≤ 2 ^ 4000 := Nat.pow_le_pow_right (by decide) (by decide)
      refine ⟨fun w => ?_, fun w => ?_⟩
      · have nz : ¬ (x = 0 ∧ y = 0 ∧ z = 0) := fun q => by
          rw [gcdT_zero.mpr q] at w
          omega
        refine ⟨[x, y, z], rfl, ⟨?_, by show 3 ≤ 1000; decide, fun n hn => ?_⟩, ?_⟩
        · by_cases x0 : x = 0
          · by_cases y0 : y = 0
            · exact ⟨z, by simp, fun q => nz ⟨x0, y0, q⟩⟩
            · exact ⟨y, by simp, y0⟩
          · exact ⟨x, by simp, x0⟩
        · simp only [List.mem_cons, List.not_mem_nil, or_false] at hn
          rcases hn with rfl | rfl | rfl <;> omega
        · obtain ⟨s1, s2⟩ := sgn_div nz
          have e : lowL [x, y, z] = [x / (gcdT x y z : Int), y / (gcdT x y z : Int), z / (gcdT x y z : Int)] := by
            unfold lowL
            rw [gcdL3]
            rfl
          rw [e]
          walk_at "dd"
          refine ⟨s2, ?_⟩
          rw [s1]
          exact H
      · have z0 : gcdT x y z = 0 := by omega
        obtain ⟨rfl, rfl, rfl⟩ := gcdT_zero.mp z0
        exact H
  · exact H.elim
local macro_rules | `(tactic| walk_at "d1") => `(tactic| try simp only [dSeq, dSkip, dPass, dRet, dRetN, dDrop, dCond, dAsg, gNm, gTp, dOwn, dOwnL, dPar, dAug, dApp, dExt, dFrz, dFor, dLc, dBreak, dCont, dVar, dC, dOp, dT, dIsi, dNeg, dNot, dTNot, dAnd, dOr, dTAnd, dTOr, dIf, dCh, dNil, dCons, dTup, dLst, dIxO, dB, dCall, dCallW, dItems, dRng1, dRng2, dYes, fnE, startE, startW, startS, dLenO, dLenS, dIxS, dSl, dPt, dNo, wipeE, addD_int, addD_str, addD_tup, addD_lst, subD_int, mulD_int, mulD_tup, mulD_lst, fdivD_int, modD_int, powD_int, shlD_int, shrD_int, andD_int, ltD_int, leD_int, gtD_int, geD_int, eqD_ap, neD_ap, isD_ap, isNotD_ap, isNon_none, isNon_int, isNon_bool, isNon_str, isNon_tup, isNon_lst, isInt_none, isInt_int, isInt_bool, isInt_str, isInt_tup, isInt_lst, isBool_none, isBool_int, isBool_bool, isBool_str, isBool_tup, isBool_lst, isStr_none, isStr_int, isStr_bool, isStr_str, isStr_tup, isStr_lst, isTup_none, isTup_int, isTup_bool, isTup_str, isTup_tup, isTup_lst, isLst_lst, Cnd_true, Cnd_false, Cnd_not, Cnd_dec, asB_bool, forall_const, true_implies, false_implies, implies_true, decide_true, decide_false, Classical.not_not, negD_int, notD_bool, onVal_val, onOwn_own, onDic_dic, onScr_scr, onWv_wv, onInt_int, onTup_tup, onLst_lst, onItems_lst, onItems_tup, frz1_own, frz1_val, frz1_un, ixD_lst, ixD_tup, ixL_int, optD_some, optI_some, absD_int, intD_int, intD_bool, lenD_lst, lenD_tup, lenD_str, tupleD_lst, tupleD_tup, listD_lst, listD_tup, min2D_int, max2D_int, sumD_ints, allD_bls, anyD_bls, slD_lst, slD_tup, slD_str, gNl_nil, gCs_cons, par2_two, seq1_lst, seq1_tup, rng1D_int, rng2D_int, gt_z, gt_s, sp_next_int, set_z, set_s, List.map_cons, List.map_nil, List.length_cons, List.length_nil, List.cons_append, List.nil_append, List.replicate, Nat.reduceAdd, Nat.reduceSub, Nat.zero_add, shaped_int, shaped_bool, shaped_none, shaped_listI, shaped_tupI, shaped_nilL, shaped_nilT, eqv_int, eqv_bool, eqv_str, eqv_none, eqv_list_nil, List.isEmpty_nil, List.isEmpty_cons, Bool.true_eq_false, Bool.false_eq_true, decide_eq_true_eq, and_self, true_and, and_true, not_dec, Bool.not_eq_true', decide_eq_false_iff_not, atI_0, atI_1, atI_2, ite_true, ite_false, if_true, if_false, reduceIte, Bool.not_true, Bool.not_false, not_true_eq_false, not_false_eq_true, List.set_cons_zero, List.set_cons_succ, dPar3, dRev, par3_three, sortedD_ints, revD_tup, two_nat, one_nat, three_nat, dCh3, dOwnC, dPutPar, putPar_two, dZip2, zip2D_lst, zip2D_tup, dPut, isBD_bl, isNotBD_bl, dNewO, dPutO, dSortedO, putKD_int, dPar3O, dParO2, par3O_two, parO2_one, minLD_lst, dKeysW, rdPairs_nil, rdPairs_cons, onPair_ii, inTD_lst, gTl, dAugS, dZip3, zip3D_tup, zip3L_cons, zip3L_nil, revD_lst])
local macro_rules | `(tactic| walk_at "dd") => `(tactic| (walk_at "d1"; repeat (with_reducible (refine then_intro ?_); walk_at "d1")))
def rd_law_alike (self : Lay.Spec) : DTS :=
  (dSeq (dCond (dT (dIsi isTupD (dVar 1))) (dSeq (dCond (dTOr (dTNot (dT (dIsi isTupD (dVar 0)))) (dT (dOp neD (dB lenD (dCons (dVar 0) dNil)) (dB lenD (dCons (dVar 1) dNil))))) (dRet (dC (.bool false))) dSkip) (dRet (dOp eqD (dLc false (dRng1 (dCons (dB lenD (dCons (dVar 1) dNil)) dNil)) (gNm 2) (dTNot (dT (dCall self (dCons (dOp ixD (dVar 0) (dVar 2)) (dCons (dOp ixD (dVar 1) (dVar 2)) dNil))))) (dVar 2) [2]) (dLst dNil)))) dSkip) (dSeq (dCond (dT (dOp isD (dVar 1) (dC .none))) (dRet (dOp isD (dVar 0) (dC .none))) dSkip) (dSeq (dCond (dT (dIsi isBoolD (dVar 1))) (dRet (dAnd (dIsi isBoolD (dVar 0)) (dOp eqD (dVar 0) (dVar 1)))) dSkip) (dSeq (dCond (dT (dIsi isIntD (dVar 1))) (dRet (dAnd (dIsi isIntD (dVar 0)) (dAnd (dNot (dIsi isBoolD (dVar 0))) (dOp eqD (dVar 0) (dVar 1))))) dSkip) (dRet (dAnd (dIsi isStrD (dVar 0)) (dOp eqD (dVar 0) (dVar 1))))))))
mutual
/-- whether a value is this one (the first), part by part -/
def alike : D → D → Bool
  | .tuple ds, t => match t with | .tuple es => alikeAll ds es | _ => false
  | .none, t => isNon t
  | .bool b, t => match t with | .bool c => decide (c = b) | _ => false
  | .int b, t => match t with | .int c => decide (c = b) | _ => false
  | .str b, t => match t with | .str c => decide (c = b) | _ => false
  | .list _, _ => false
  | .dict _, _ => false
def alikeAll : List D → List D → Bool
  | [], es => es.isEmpty
  | d :: ds, es => match es with | e :: r => alike d e && alikeAll ds r | [] => false
end
mutual
def plainD : D → Bool
  | .tuple ds => decide (ds.length ≤ 1000000) && plainAll ds
  | .list _ => false
  | .dict _ => false
  | _ => true
def plainAll : List D → Bool
  | [] => true
  | d :: ds => plainD d && plainAll ds
end
def spn_law_alike (n : Nat) : Lay.Spec := fun ds R => match ds with
  | [told, due] => (PyData.depth due < n ∧ plainD due = true ∧ PyData.canLay0 due = true ∧ PyData.canLay0 told = true) ∧ R (.bool (alike due told))
  | _ => False
def sp_law_alike : Lay.Spec := spn_law_alike 8
theorem plainAll_mem : ∀ {ds : List D} {i : Nat} {d : D}, plainAll ds = true → ds[i]? = some d → plainD d = true
  | [], i, d, _, e => by simp at e
  | x :: r, 0, d, h, e => by
    simp at e; subst e
    rw [plainAll, Bool.and_eq_true] at h
    exact h.1
  | x :: r, i + 1, d, h, e => by
    rw [plainAll, Bool.and_eq_true] at h
    exact plainAll_mem h.2 (by simpa using e)
theorem canLayAll_mem : ∀ {ds : List D} {i : Nat} {d : D}, PyData.canLayAll0 ds = true → ds[i]? = some d → PyData.canLay0 d = true
  | [], i, d, _, e => by simp at e
  | x :: r, 0, d, h, e => by
    simp at e; subst e
    rw [cl_cons, Bool.and_eq_true] at h
    exact h.1
  | x :: r, i + 1, d, h, e => by
    rw [cl_cons, Bool.and_eq_true] at h
    exact canLayAll_mem h.2 (by simpa using e)
theorem depthAll_mem : ∀ {ds : List D} {i : Nat} {d : D}, ds[i]? = some d → PyData.depth d ≤ PyData.depthAll ds
  | [], i, d, e => by simp at e
  | x :: r, 0, d, e => by
    simp at e; subst e
    rw [dp_cons]; exact Nat.le_max_left _ _
  | x :: r, i + 1, d, e => by
    rw [dp_cons]
    exact Nat.le_trans (depthAll_mem (i := i) (by simpa using e)) (Nat.le_max_right _ _)
theorem alikeAll_iff : ∀ (ds es : List D), alikeAll ds es = true ↔ ds.length = es.length ∧ ∀ (i : Nat) (d e : D), ds[i]? = some d → es[i]? = some e → alike d e = true
  | [], [] => by simp [alikeAll]
  | [], _ :: _ => by simp [alikeAll]
  | _ :: _, [] => by simp [alikeAll]
  | d :: ds, e :: es => by
    rw [alikeAll, Bool.and_eq_true, alikeAll_iff ds es]
    refine ⟨fun ⟨h1, h2, h3⟩ => ⟨by simp [h2], fun i x y hx hy => ?_⟩, fun ⟨h1, h2⟩ => ⟨h2 0 d e rfl rfl, by simpa using h1, fun i x y hx hy => h2 (i + 1) x y (by simpa using hx) (by simpa using hy)⟩⟩
    cases i with
    | zero => simp at hx hy; subst hx hy; exact h1
    | succ i => exact h3 i x y (by simpa using hx) (by simpa using hy)
theorem filter_ints (xs : List D) (f : D → Option D) (h : ∀ d ∈ xs, f d = none ∨ ∃ i, f d = some (.int i)) : ∃ ns : List Int, xs.filterMap f = ns.map .int := by
  induction xs with
  | nil => exact ⟨[], rfl⟩
  | cons x xs ih =>
    obtain ⟨ns, e⟩ := ih fun d hd => h d (List.mem_cons_of_mem _ hd)
    rcases h x List.mem_cons_self with q | ⟨i, q⟩
    · exact ⟨ns, by rw [List.filterMap_cons_none q, e]⟩
    · exact ⟨i :: ns, by rw [List.filterMap_cons_some q, e]; rfl⟩
theorem shaped_of {d : D} (h1 : PyData.canLay0 d = true) (h2 : PyData.depth d ≤ 64) : SeqAt.shaped d = true := by
  unfold SeqAt.shaped
  rw [h1, decide_eq_true h2]; rfl
def alikeF (es ts : List D) : D → Option D := fun d => match d with
  | .int k => (match es[k.toNat]?, ts[k.toNat]? with
    | some e, some t => if alike e t = true then none else some (.int k)
    | _, _ => none)
  | _ => none
theorem ok_law_alike (n : Nat) : ∀ ds R, spn_law_alike (n + 1) ds R → rd_law_alike (spn_law_alike n) (fnE R) (startE 3 ds) := by
  intro ds R h
  unfold spn_law_alike at h
  split at h
  · rename_i told due
    obtain ⟨⟨hd, hp, hc, ht⟩, h⟩ := h
    unfold rd_law_alike
    cases due with
    | list _ => cases hp
    | dict _ => cases hp
    | none =>
      walk_at "dd"
      exact h
    | bool b =>
      walk_at "dd"
      cases told <;> walk_at "dd" <;> exact h
    | int b =>
      walk_at "dd"
      cases told <;> walk_at "dd" <;> exact h
    | str b =>
      walk_at "dd"
      cases told <;> walk_at "dd" <;> first | exact h | exact ⟨⟨shaped_of ht (Nat.zero_le _), shaped_of hc (Nat.zero_le _)⟩, h⟩
    | tuple es =>
      cases told with
      | tuple ts =>
        walk_at "dd"
        refine And.symm ⟨fun hl => ?_, fun hl => ?_⟩
        · have : alike (.tuple es) (.tuple ts) = false := by
            rw [alike, Bool.eq_false_iff]
            exact fun z => hl (by have := (alikeAll_iff es ts).mp z; omega)
          rw [this] at h
          exact h
        · have hl : ts.length = es.length := by omega
          walk_at "dd"
          rw [plainD, Bool.and_eq_true, decide_eq_true_eq] at hp
          obtain ⟨hp1, hp2⟩ := hp
          rw [cl_tup] at hc ht
          rw [dp_tup] at hd
          refine ⟨by omega, ?_⟩
          have en : ((es.length : Int)).toNat = es.length := by omega
          rw [en]
          refine lc_fun (alikeF es ts) (fun _ => ?_) (fun d hm P hP => ?_) ?_
          · rw [rangeD_length, sizeLine_eq]
            omega
          · obtain ⟨i, hi⟩ := List.getElem?_of_mem hm
            obtain ⟨h1, rfl⟩ := rangeD_get hi
            walk_at "dd"
            have h2 : i < ts.length := by omega
            have q1 : ts[i]? = some ts[i] := List.getElem?_eq_getElem h2
            have q2 : es[i]? = some es[i] := List.getElem?_eq_getElem h1
            have e0 : (0 : Int) + (i : Int) = (i : Int) := by omega
            rw [e0] at hP ⊢
            rw [atI_nat q1, atI_nat q2]
            simp only [alikeF, Int.toNat_natCast, q1, q2] at hP
            walk_at "dd"
            show spn_law_alike n [ts[i], es[i]] _
            refine ⟨⟨?_, plainAll_mem hp2 q2, canLayAll_mem hc q2, canLayAll_mem ht q1⟩, ?_⟩
            · have := depthAll_mem q2
              omega
            · walk_at "dd"
              cases hq : alike es[i] ts[i] with
              | true => rw [hq] at hP; exact hP
              | false => rw [hq] at hP; exact hP
          · obtain ⟨ns, hns⟩ := filter_ints (rangeD 0 es.length) (alikeF es ts) (fun d hm => by
              obtain ⟨i, hi⟩ := List.getElem?_of_mem hm
              obtain ⟨h1, rfl⟩ := rangeD_get hi
              simp only [alikeF]
              split
              · split
                · exact .inl rfl
                · exact .inr ⟨_, rfl⟩
              · exact .inl rfl)
            have key : (((rangeD 0 es.length).filterMap (alikeF es ts)).isEmpty) = alike (.tuple es) (.tuple ts) := by
              rw [alike, Bool.eq_iff_iff, List.isEmpty_iff, alikeAll_iff, List.filterMap_eq_nil_iff]
              refine ⟨fun z => ⟨hl.symm, fun i d e hx hy => ?_⟩, fun ⟨_, z⟩ d hm => ?_⟩
              · have hi : i < es.length := (List.getElem?_eq_some_iff.mp hx).1
                have hm : PyData.int (i : Int) ∈ rangeD 0 es.length := by
                  unfold rangeD
                  exact List.mem_map.mpr ⟨i, List.mem_range.mpr hi, by simp⟩
                have := z _ hm
                simp only [alikeF, Int.toNat_natCast, hx, hy] at this
                cases hq : alike d e with
                | true => rfl
                | false => rw [hq] at this; simp at this
              · obtain ⟨i, hi⟩ := List.getElem?_of_mem hm
                obtain ⟨h1, rfl⟩ := rangeD_get hi
                have h2 : i < ts.length := by omega
                have q1 : ts[i]? = some ts[i] := List.getElem?_eq_getElem h2
                have q2 : es[i]? = some es[i] := List.getElem?_eq_getElem h1
                have e0 : ((0 : Int) + (i : Int)).toNat = i := by omega
                simp only [alikeF, e0, q1, q2, z i _ _ q2 q1, if_true]
            rw [← key, ← eqv_list_nil, hns] at h
            rw [hns]
            exact ⟨shaped_listI ns, h⟩
      | _ => walk_at "dd"; exact h
  · exact h.elim
theorem no_law_alike : ∀ ds R, spn_law_alike 0 ds R → False := by
  intro ds R h
  unfold spn_law_alike at h
  split at h
  · exact absurd h.1.1 (Nat.not_lt_zero _)
  · exact h
local macro_rules | `(tactic| walk_at "d1") => `(tactic| try simp only [dSeq, dSkip, dPass, dRet, dRetN, dDrop, dCond, dAsg, gNm, gTp, dOwn, dOwnL, dPar, dAug, dApp, dExt, dFrz, dFor, dLc, dBreak, dCont, dVar, dC, dOp, dT, dIsi, dNeg, dNot, dTNot, dAnd, dOr, dTAnd, dTOr, dIf, dCh, dNil, dCons, dTup, dLst, dIxO, dB, dCall, dCallW, dItems, dRng1, dRng2, dYes, fnE, startE, startW, startS, dLenO, dLenS, dIxS, dSl, dPt, dNo, wipeE, addD_int, addD_str, addD_tup, addD_lst, subD_int, mulD_int, mulD_tup, mulD_lst, fdivD_int, modD_int, powD_int, shlD_int, shrD_int, andD_int, ltD_int, leD_int, gtD_int, geD_int, eqD_ap, neD_ap, isD_ap, isNotD_ap, isNon_none, isNon_int, isNon_bool, isNon_str, isNon_tup, isNon_lst, isInt_none, isInt_int, isInt_bool, isInt_str, isInt_tup, isInt_lst, isBool_none, isBool_int, isBool_bool, isBool_str, isBool_tup, isBool_lst, isStr_none, isStr_int, isStr_bool, isStr_str, isStr_tup, isStr_lst, isTup_none, isTup_int, isTup_bool, isTup_str, isTup_tup, isTup_lst, isLst_lst, Cnd_true, Cnd_false, Cnd_not, Cnd_dec, asB_bool, forall_const, true_implies, false_implies, implies_true, decide_true, decide_false, Classical.not_not, negD_int, notD_bool, onVal_val, onOwn_own, onDic_dic, onScr_scr, onWv_wv, onInt_int, onTup_tup, onLst_lst, onItems_lst, onItems_tup, frz1_own, frz1_val, frz1_un, ixD_lst, ixD_tup, ixL_int, optD_some, optI_some, absD_int, intD_int, intD_bool, lenD_lst, lenD_tup, lenD_str, tupleD_lst, tupleD_tup, listD_lst, listD_tup, min2D_int, max2D_int, sumD_ints, allD_bls, anyD_bls, slD_lst, slD_tup, slD_str, gNl_nil, gCs_cons, par2_two, seq1_lst, seq1_tup, rng1D_int, rng2D_int, gt_z, gt_s, sp_next_int, set_z, set_s, List.map_cons, List.map_nil, List.length_cons, List.length_nil, List.cons_append, List.nil_append, List.replicate, Nat.reduceAdd, Nat.reduceSub, Nat.zero_add, shaped_int, shaped_bool, shaped_none, shaped_listI, shaped_tupI, shaped_nilL, shaped_nilT, eqv_int, eqv_bool, eqv_str, eqv_none, eqv_list_nil, List.isEmpty_nil, List.isEmpty_cons, Bool.true_eq_false, Bool.false_eq_true, decide_eq_true_eq, and_self, true_and, and_true, not_dec, Bool.not_eq_true', decide_eq_false_iff_not, atI_0, atI_1, atI_2, ite_true, ite_false, if_true, if_false, reduceIte, Bool.not_true, Bool.not_false, not_true_eq_false, not_false_eq_true, List.set_cons_zero, List.set_cons_succ, dPar3, dRev, par3_three, sortedD_ints, revD_tup, two_nat, one_nat, three_nat, dCh3, dOwnC, dPutPar, putPar_two, dZip2, zip2D_lst, zip2D_tup, dPut, isBD_bl, isNotBD_bl, dNewO, dPutO, dSortedO, putKD_int, dPar3O, dParO2, par3O_two, parO2_one, minLD_lst, dKeysW, rdPairs_nil, rdPairs_cons, onPair_ii, inTD_lst, gTl, dAugS, dZip3, zip3D_tup, zip3L_cons, zip3L_nil, revD_lst, spx_between, spx_directions, spx_law_common_v2, spx_law_lone_t, spx_law_lone_l, spx_curve_of, spx_law_zeros, spx_law_drawn_v1, spx_law_is_number_v2, spx_signed, spx_common, spx_lowest])
local macro_rules | `(tactic| walk_at "dd") => `(tactic| (walk_at "d1"; repeat (with_reducible (refine then_intro ?_); walk_at "d1")))
def rd_law_k24_b1 : DTS :=
  (dSeq (dPar 10 11 (dCons (dCallW 1 sp_law_pick (dCons (dLst (dCons (dC (.int 0)) (dCons (dC (.int 1)) (dCons (dNeg (dC (.int 1))) (dCons (dC (.int 2)) (dCons (dOp subD (dCallW 1 sp_next (dCons (dC (.int 19)) dNil)) (dC (.int 9))) dNil)))))) dNil)) (dCons (dCallW 1 sp_law_pick (dCons (dLst (dCons (dC (.int 0)) (dCons (dC (.int 1)) (dCons (dNeg (dC (.int 1))) (dCons (dC (.int 3)) (dCons (dOp subD (dCallW 1 sp_next (dCons (dC (.int 19)) dNil)) (dC (.int 9))) dNil)))))) dNil)) dNil))) (dSeq (dAsg (dCall sp_at (dCons (dVar 6) (dCons (dVar 10) (dCons (dVar 11) dNil)))) (gNm 12)) (dCond (dTOr (dTNot (dT (dCall sp_law_is_numbers (dCons (dVar 12) (dCons (dC (.int 3)) dNil))))) (dT (dOp neD (dVar 12) (dCall sp_law_at (dCons (dVar 6) (dCons (dVar 10) (dCons (dVar 11) dNil))))))) (dRet (dC (.bool false))) dSkip)))
def rd_law_k24_b2 : DTS :=
  (dSeq (dAsg (dCallW 1 sp_law_drawn_v1 dNil) (gTp 2 (gCs (gNm 3) (gCs (gNm 4) gNl)))) (dSeq (dAsg (dCallW 1 sp_law_pick (dCons (dVar 4) dNil)) (gNm 5)) (dSeq (dAsg (dCall sp_curve_of (dCons (dVar 3) (dCons (dCallW 1 sp_law_pick (dCons (dLst (dCons (dVar 5) (dCons (dB tupleD (dCons (dLc true (dItems (dVar 5)) (gNm 7) dYes (dOp subD (dC (.int 0)) (dVar 7)) [7]) dNil)) dNil))) dNil)) dNil))) (gNm 6)) (dSeq (dCond (dTOr (dTNot (dT (dIsi isTupD (dVar 6)))) (dTOr (dT (dOp neD (dB lenD (dCons (dVar 6) dNil)) (dC (.int 3)))) (dTOr (dT (dOp neD (dLc true (dItems (dVar 6)) (gNm 8) (dTNot (dT (dCall sp_law_is_numbers (dCons (dVar 8) (dCons (dC (.int 3)) dNil))))) (dVar 8) [8]) (dLst dNil))) (dTNot (dT (dCall sp_law_is_flat (dCons (dVar 3) (dCons (dVar 6) dNil)))))))) (dRet (dC (.bool false))) dSkip) (dSeq (dCond (dTAnd (dT (dOp eqD (dCall sp_law_at (dCons (dVar 6) (dCons (dC (.int 1)) (dCons (dC (.int 0)) dNil)))) (dCall sp_law_at (dCons (dVar 6) (dCons (dC (.int 0)) (dCons (dC (.int 1)) dNil)))))) (dT (dOp eqD (dCall sp_law_at (dCons (dVar 6) (dCons (dC (.int 1)) (dCons (dC (.int 0)) dNil)))) (dCall sp_law_at (dCons (dVar 6) (dCons (dC (.int 1)) (dCons (dC (.int 1)) dNil))))))) (dRet (dC (.bool false))) dSkip) (dFor (dRng1 (dCons (dC (.int 6)) dNil)) (gNm 9) rd_law_k24_b1))))))
def rd_law_k24 : DTS :=
  (dSeq (dFor (dRng1 (dCons (dC (.int 2)) dNil)) (gNm 2) rd_law_k24_b2) (dRet (dC (.bool true))))
structure ZC (a b c x y z : Int) : Prop where
  zero : a * x * x + b * y * y + c * z * z = 0
  nz : ¬ (x = 0 ∧ y = 0 ∧ z = 0)
  bx : x.natAbs ≤ 8
  by' : y.natAbs ≤ 8
  bz : z.natAbs ≤ 59
theorem ZC.of {a b c : Int} {m : List Int} (h : ZerL a b c m) : ∃ x y z, m = [x, y, z] ∧ ZC a b c x y z := by
  obtain ⟨X, Y, Z, rfl, p, hz⟩ := h
  refine ⟨X, Y, Z, rfl, p.zero, fun w => ?_, ?_, p.by', hz⟩
  · rcases p.first with q | q | q <;> omega
  · have := p.bx
    rcases p.first with q | q | q <;> omega
theorem ZC.neg {a b c x y z : Int} (h : ZC a b c x y z) : ZC a b c (0 - x) (0 - y) (0 - z) := by
  refine ⟨?_, fun w => h.nz (by omega), by have := h.bx; omega, by have := h.by'; omega, by have := h.bz; omega⟩
  have : a * (0 - x) * (0 - x) + b * (0 - y) * (0 - y) + c * (0 - z) * (0 - z) = a * x * x + b * y * y + c * z * z := by grind
  rw [this]
  exact h.zero
theorem ZC.xy {a b c x y z : Int} (h : ZC a b c x y z) (c0 : c ≠ 0) : x ≠ 0 ∨ y ≠ 0 := by
  by_cases hx : x = 0
  · by_cases hy : y = 0
    · exfalso
      have e := h.zero
      rw [hx, hy] at e
      have e2 : c * (z * z) = 0 := by rw [← Int.mul_assoc]; omega
      rcases Int.mul_eq_zero.mp e2 with w | w
      · exact c0 w
      · exact h.nz ⟨hx, hy, (Int.mul_eq_zero.mp w).elim id id⟩
    · exact .inr hy
  · exact .inl hx
/-- a zero that was found, or its opposite -/
theorem pick_zero {a b c x y z : Int} (h : ZC a b c x y z) {R : D → Prop} (k : ∀ u v w : Int, ZC a b c u v w → R (.tuple [.int u, .int v, .int w])) : sp_law_pick [.list [.tuple [.int x, .int y, .int z], .tuple [.int (0 - x), .int (0 - y), .int (0 - z)]]] R := by
  refine ⟨List.cons_ne_nil _ _, fun d hd => ?_⟩
  simp only [List.mem_cons, List.not_mem_nil, or_false] at hd
  rcases hd with rfl | rfl
  · exact k _ _ _ h
  · exact k _ _ _ h.neg
theorem curve_bound {a b c x y z : Int} (ha : a.natAbs ≤ 3485 ∧ b.natAbs ≤ 3485 ∧ c.natAbs ≤ 3485) (h : ZC a b c x y z) : ∀ r ∈ curveR a b c x y z, RowB r := by
  have m12 : ∀ {u v : Int}, u.natAbs ≤ 3485 → v.natAbs ≤ 59 → (u * v).natAbs ≤ 3485 * 59 := fun h1 h2 => by rw [Int.natAbs_mul]; exact Nat.mul_le_mul h1 h2
  have bx := h.bx
  have by' := h.by'
  have bz := h.bz
  have p1 := m12 ha.1 (show x.natAbs ≤ 59 by omega)
  have p2 := m12 ha.1 (show y.natAbs ≤ 59 by omega)
  have p3 := m12 ha.1 (show z.natAbs ≤ 59 by omega)
  have q1 := m12 ha.2.1 (show x.natAbs ≤ 59 by omega)
  have q2 := m12 ha.2.1 (show y.natAbs ≤ 59 by omega)
  have q3 := m12 ha.2.1 (show z.natAbs ≤ 59 by omega)
  have r1 := m12 ha.2.2 (show x.natAbs ≤ 59 by omega)
  have r2 := m12 ha.2.2 (show y.natAbs ≤ 59 by omega)
  have r3 := m12 ha.2.2 (show z.natAbs ≤ 59 by omega)
  have p40 : 3485 * 59 * 5 < 2 ^ 40 := by decide
  unfold curveR
  split
  all_goals
    intro r hr
    simp only [rowsC, List.mem_cons, List.not_mem_nil, or_false] at hr
    rcases hr with rfl | rfl | rfl <;> refine ⟨?_, ?_, ?_⟩ <;> simp only [rowC, Int.mul_zero, Int.mul_one, Int.zero_mul] <;> omega
theorem row_num {r : T3} {R : D → Prop} (h : R (.bool true)) : sp_law_is_numbers [rowD r, .int 3] R := is_numbers_ok ⟨[r.1, r.2.1, r.2.2], rfl, rfl⟩ h
theorem la_call {a b c x y z : Int} {r0 r1 r2 : T3} (er : curveR a b c x y z = [r0, r1, r2]) (h0 : RowB r0) (h1 : RowB r1) (h2 : RowB r2) {s t : Int} (hs : s.natAbs < 2 ^ 40) (ht : t.natAbs < 2 ^ 40) {R : D → Prop} (h : R (loneD (ptC a b c x y z s t))) : sp_law_at [.tuple [rowD r0, rowD r1, rowD r2], .int s, .int t] R := by
  unfold ptC at h
  rw [er] at h
  exact ⟨⟨⟨h0, h1, h2⟩, hs, ht⟩, h⟩
theorem at_call {a b c x y z : Int} {r0 r1 r2 : T3} (er : curveR a b c x y z = [r0, r1, r2]) (h0 : RowB r0) (h1 : RowB r1) (h2 : RowB r2) {s t : Int} (hs : s.natAbs < 2 ^ 40) (ht : t.natAbs < 2 ^ 40) {R : D → Prop} (h : R (loneD (ptC a b c x y z s t))) : sp_at [.tuple [rowD r0, rowD r1, rowD r2], .int s, .int t] R := by
  unfold ptC at h
  rw [er] at h
  exact ⟨⟨⟨h0, h1, h2⟩, hs, ht⟩, h⟩
theorem fl_call {a b c : Int} {r0 r1 r2 : T3} (fb : a.natAbs ≤ 3485 ∧ b.natAbs ≤ 3485 ∧ c.natAbs ≤ 3485) (h0 : RowB r0) (h1 : RowB r1) (h2 : RowB r2) (fl : sumsF a b c r0 r1 r2 = [0, 0, 0, 0, 0]) {R : D → Prop} (h : R (.bool true)) : sp_law_is_flat [.tuple [.int a, .int b, .int c], .tuple [rowD r0, rowD r1, rowD r2]] R := by
  have p : 3485 < 2 ^ 40 := by decide
  refine ⟨⟨⟨by omega, by omega, by omega⟩, h0, h1, h2⟩, ?_⟩
  have e : sumsF a b c (r0.1, r0.2.1, r0.2.2) (r1.1, r1.2.1, r1.2.2) (r2.1, r2.2.1, r2.2.2) = [0, 0, 0, 0, 0] := fl
  rw [e, decide_eq_true rfl]
  exact h
theorem eqv_lone (s t : Int × Int × Int) : PyData.eqv (loneD s) (loneD t) = decide (s = t) := by
  have := eqv_tupI (lst3 s) (lst3 t)
  refine Eq.trans this (decide_eq_decide.mpr ⟨fun e => ?_, fun e => by rw [e]⟩)
  simp only [lst3, List.cons.injEq, and_true] at e
  exact Prod.ext e.1 (Prod.ext e.2.1 e.2.2)
theorem lone_sh (t : Int × Int × Int) : SeqAt.shaped (loneD t) = true := shaped_tupI (lst3 t)
theorem lone_num {t : Int × Int × Int} {R : D → Prop} (h : R (.bool true)) : sp_law_is_numbers [loneD t, .int 3] R := is_numbers_ok ⟨[t.1, t.2.1, t.2.2], rfl, rfl⟩ h
theorem pick5 {p q r n : Int} (hp : p.natAbs ≤ 10 ∧ q.natAbs ≤ 10 ∧ r.natAbs ≤ 10) (hn0 : 0 ≤ n) (hn : n < 19) {R : D → Prop} (k : ∀ s : Int, s.natAbs ≤ 10 → R (.int s)) : sp_law_pick [.list [.int 0, .int p, .int q, .int r, .int (n - 9)]] R := by
  refine ⟨List.cons_ne_nil _ _, fun d hd => ?_⟩
  simp only [List.mem_cons, List.not_mem_nil, or_false] at hd
  rcases hd with rfl | rfl | rfl | rfl | rfl
  · exact k 0 (by decide)
  · exact k _ hp.1
  · exact k _ hp.2.1
  · exact k _ hp.2.2
  · exact k _ (by omega)
theorem ok_law_k24 : rd_law_k24 (fnE fun d => d = .bool true) (.un :: .wv :: List.replicate 11 .un) := by
  unfold rd_law_k24
  walk_at "dd"
  refine ⟨by decide, ?_⟩
  refine for_by (fun (s : Sl × Sl × Sl × Sl × Sl × Sl × Sl × Sl × Sl × Sl × Sl) => [.un, .wv, s.1, s.2.1, s.2.2.1, s.2.2.2.1, s.2.2.2.2.1, s.2.2.2.2.2.1, s.2.2.2.2.2.2.1, s.2.2.2.2.2.2.2.1, s.2.2.2.2.2.2.2.2.1, s.2.2.2.2.2.2.2.2.2.1, s.2.2.2.2.2.2.2.2.2.2]) (fun _ _ => True) (.un, .un, .un, .un, .un, .un, .un, .un, .un, .un, .un) rfl trivial ?_ ?_
  · rintro i e he ⟨u1, u2, u3, u4, u5, u6, u7, u8, u9, u10, u11⟩ _ bk
    unfold rd_law_k24_b2
    walk_at "dd"
    intro a b c ms ⟨⟨a0, b0, c0⟩, fb⟩ ne hz
    refine then_intro ?_
    walk_at "dd"
    refine ⟨by cases ms with | nil => exact absurd rfl ne | cons m ms => exact List.cons_ne_nil _ _, fun d hd => ?_⟩
    obtain ⟨m, hm, rfl⟩ := List.mem_map.mp hd
    obtain ⟨x0, y0, z0, rfl, zc0⟩ := ZC.of (hz m hm)
    have et : tupD [x0, y0, z0] = .tuple [.int x0, .int y0, .int z0] := rfl
    rw [et]
    refine then_intro ?_
    walk_at "dd"
    refine lc_map (xs := [x0, y0, z0]) (f := PyData.int) (k := PyData.int) (p := fun n => some (0 - n)) (fun w => nomatch w) (fun n hn P hP => ?_) ?_
    · walk_at "dd"
      exact hP
    have ef : ([x0, y0, z0].filterMap fun n : Int => some (0 - n)) = [0 - x0, 0 - y0, 0 - z0] := rfl
    rw [ef]
    walk_at "dd"
    refine pick_zero zc0 fun x y z zc => ?_
    obtain ⟨r0, r1, r2, er, fl⟩ := curve_flat zc.zero
    have rb := curve_bound fb zc
    walk_at "dd"
    have b1 := fb
    have bx := zc.bx
    have by' := zc.by'
    have bz := zc.bz
    refine ⟨⟨zc.xy c0, ⟨by omega, by omega, by omega⟩, by omega, by omega, by omega⟩, ?_⟩
    rw [er] at rb ⊢
    have hr0 : RowB r0 := rb r0 (by simp)
    have hr1 : RowB r1 := rb r1 (by simp)
    have hr2 : RowB r2 := rb r2 (by simp)
    refine then_intro ?_
    walk_at "dd"
    refine lc_none (fun z => nomatch z) (fun d hd P hP => ?_) ?_
    · have : ∃ r : T3, d = rowD r := by
        simp only [List.mem_cons, List.not_mem_nil, or_false] at hd
        rcases hd with rfl | rfl | rfl <;> exact ⟨_, rfl⟩
      obtain ⟨r, rfl⟩ := this
      walk_at "dd"
      refine row_num ?_
      walk_at "dd"
      exact hP
    walk_at "dd"
    refine fl_call fb hr0 hr1 hr2 fl ?_
    walk_at "dd"
    refine la_call er hr0 hr1 hr2 (by decide) (by decide) ?_
    refine la_call er hr0 hr1 hr2 (by decide) (by decide) ?_
    rw [eqv_lone, decide_eq_false (two_points a0 b0 c0 zc.zero zc.nz)]
    refine ⟨⟨lone_sh _, lone_sh _⟩, ?_⟩
    walk_at "dd"
    refine ⟨by decide, ?_⟩
    refine for_by (fun (s : Sl × Sl × Sl × Sl) => [.un, .wv, .val e, .val (.tuple [.int a, .int b, .int c]), .val (.list (ms.map tupD)), .val (.tuple [.int x0, .int y0, .int z0]), .val (.tuple [rowD r0, rowD r1, rowD r2]), u6, u7, s.1, s.2.1, s.2.2.1, s.2.2.2]) (fun _ _ => True) (u8, u9, u10, u11) rfl trivial ?_ ?_
    · rintro j d hd2 ⟨v1, v2, v3, v4⟩ _ bk2
      unfold rd_law_k24_b1
      walk_at "dd"
      refine ⟨by decide, fun n n0 n1 _ => ?_⟩
      refine pick5 (by decide) n0 n1 fun s hs => ?_
      refine ⟨by decide, fun n n0 n1 _ => ?_⟩
      refine pick5 (by decide) n0 n1 fun t ht => ?_
      refine then_intro ?_
      walk_at "dd"
      have p40 : 10 < 2 ^ 40 := by decide
      refine at_call er hr0 hr1 hr2 (by omega) (by omega) ?_
      refine then_intro ?_
      walk_at "dd"
      refine lone_num ?_
      walk_at "dd"
      refine la_call er hr0 hr1 hr2 (by omega) (by omega) ?_
      rw [eqv_lone, decide_eq_true rfl]
      refine ⟨⟨lone_sh _, lone_sh _⟩, ?_⟩
      walk_at "dd"
      exact ⟨(_, _, _, _), rfl⟩
    · rintro ⟨v1, v2, v3, v4⟩ _
      exact ⟨(_, _, _, _, _, _, _, _, _, _, _), rfl⟩
  · rintro ⟨u1, u2, u3, u4, u5, u6, u7, u8, u9, u10, u11⟩ _
    walk_at "dd"
local macro_rules | `(tactic| walk_at "d1") => `(tactic| try simp only [dSeq, dSkip, dPass, dRet, dRetN, dDrop, dCond, dAsg, gNm, gTp, dOwn, dOwnL, dPar, dAug, dApp, dExt, dFrz, dFor, dLc, dBreak, dCont, dVar, dC, dOp, dT, dIsi, dNeg, dNot, dTNot, dAnd, dOr, dTAnd, dTOr, dIf, dCh, dNil, dCons, dTup, dLst, dIxO, dB, dCall, dCallW, dItems, dRng1, dRng2, dYes, fnE, startE, startW, startS, dLenO, dLenS, dIxS, dSl, dPt, dNo, wipeE, addD_int, addD_str, addD_tup, addD_lst, subD_int, mulD_int, mulD_tup, mulD_lst, fdivD_int, modD_int, powD_int, shlD_int, shrD_int, andD_int, ltD_int, leD_int, gtD_int, geD_int, eqD_ap, neD_ap, isD_ap, isNotD_ap, isNon_none, isNon_int, isNon_bool, isNon_str, isNon_tup, isNon_lst, isInt_none, isInt_int, isInt_bool, isInt_str, isInt_tup, isInt_lst, isBool_none, isBool_int, isBool_bool, isBool_str, isBool_tup, isBool_lst, isStr_none, isStr_int, isStr_bool, isStr_str, isStr_tup, isStr_lst, isTup_none, isTup_int, isTup_bool, isTup_str, isTup_tup, isTup_lst, isLst_lst, Cnd_true, Cnd_false, Cnd_not, Cnd_dec, asB_bool, forall_const, true_implies, false_implies, implies_true, decide_true, decide_false, Classical.not_not, negD_int, notD_bool, onVal_val, onOwn_own, onDic_dic, onScr_scr, onWv_wv, onInt_int, onTup_tup, onLst_lst, onItems_lst, onItems_tup, frz1_own, frz1_val, frz1_un, ixD_lst, ixD_tup, ixL_int, optD_some, optI_some, absD_int, intD_int, intD_bool, lenD_lst, lenD_tup, lenD_str, tupleD_lst, tupleD_tup, listD_lst, listD_tup, min2D_int, max2D_int, sumD_ints, allD_bls, anyD_bls, slD_lst, slD_tup, slD_str, gNl_nil, gCs_cons, par2_two, seq1_lst, seq1_tup, rng1D_int, rng2D_int, gt_z, gt_s, sp_next_int, set_z, set_s, List.map_cons, List.map_nil, List.length_cons, List.length_nil, List.cons_append, List.nil_append, List.replicate, Nat.reduceAdd, Nat.reduceSub, Nat.zero_add, shaped_int, shaped_bool, shaped_none, shaped_listI, shaped_tupI, shaped_nilL, shaped_nilT, eqv_int, eqv_bool, eqv_str, eqv_none, eqv_list_nil, List.isEmpty_nil, List.isEmpty_cons, Bool.true_eq_false, Bool.false_eq_true, decide_eq_true_eq, and_self, true_and, and_true, not_dec, Bool.not_eq_true', decide_eq_false_iff_not, atI_0, atI_1, atI_2, ite_true, ite_false, if_true, if_false, reduceIte, Bool.not_true, Bool.not_false, not_true_eq_false, not_false_eq_true, List.set_cons_zero, List.set_cons_succ, dPar3, dRev, par3_three, sortedD_ints, revD_tup, two_nat, one_nat, three_nat, dCh3, dOwnC, dPutPar, putPar_two, dZip2, zip2D_lst, zip2D_tup, dPut, isBD_bl, isNotBD_bl, dNewO, dPutO, dSortedO, putKD_int, dPar3O, dParO2, par3O_two, parO2_one, minLD_lst, dKeysW, rdPairs_nil, rdPairs_cons, onPair_ii, inTD_lst, gTl, dAugS, dZip3, zip3D_tup, zip3L_cons, zip3L_nil, revD_lst, spx_between, spx_directions, spx_law_common_v2, spx_law_lone_t, spx_law_lone_l, spx_curve_of, spx_common, spx_law_zeros, spx_law_drawn_v1, spx_law_is_number_v2, spx_signed, spx_lowest])
local macro_rules | `(tactic| walk_at "dd") => `(tactic| (walk_at "d1"; repeat (with_reducible (refine then_intro ?_); walk_at "d1")))
def rd_told_at_c2 : DTS :=
  (dSeq (dAsg (dCall sp_common (dCons (dVar 6) (dCons (dVar 7) dNil))) (gNm 10)) (dRet (dTup (dCons (dOp fdivD (dVar 6) (dVar 10)) (dCons (dOp fdivD (dVar 7) (dVar 10)) dNil)))))
def rd_told_at_c1 : DTS :=
  (dSeq (dCond (dT (dOp eqD (dTup (dCons (dVar 6) (dCons (dVar 7) dNil))) (dTup (dCons (dC (.int 0)) (dCons (dC (.int 0)) dNil))))) (dSeq (dAsg (dCall sp_directions (dCons (dVar 1) dNil)) (gTl 2 (gCs (gNm 8) (gCs (gNm 9) gNl)))) (dPar 6 7 (dCons (dCall sp_between (dCons (dVar 0) (dCons (dVar 1) (dCons (dVar 9) dNil)))) (dCons (dNeg (dCall sp_between (dCons (dVar 0) (dCons (dVar 1) (dCons (dVar 8) dNil))))) dNil)))) dSkip) rd_told_at_c2)
def rd_told_at : DTS :=
  (dSeq (dAsg (dOp ixD (dLc false (dRng1 (dCons (dC (.int 3)) dNil)) (gNm 4) (dT (dOp neD (dOp ixD (dVar 1) (dVar 4)) (dC (.int 0)))) (dVar 4) [4]) (dC (.int 0))) (gNm 3)) (dSeq (dAsg (dLc false (dRng1 (dCons (dC (.int 3)) dNil)) (gNm 4) (dT (dOp neD (dVar 4) (dVar 3))) (dVar 4) [4]) (gNm 5)) (dSeq (dAsg (dLc true (dItems (dVar 5)) (gNm 4) dYes (dOp subD (dOp mulD (dOp ixD (dVar 2) (dVar 4)) (dOp ixD (dVar 1) (dVar 3))) (dOp mulD (dOp ixD (dVar 1) (dVar 4)) (dOp ixD (dVar 2) (dVar 3)))) [4]) (gTl 2 (gCs (gNm 6) (gCs (gNm 7) gNl)))) rd_told_at_c1)))
def sp_told_at : Lay.Spec := fun ds R => match ds with
  | [.tuple [.int a, .int b, .int c], .tuple [.int x, .int y, .int z], .tuple [.int X, .int Y, .int Z]] => (FormN a b c ∧ ZC a b c x y z ∧ ZC a b c X Y Z) ∧ ∀ s t : Int, Int.gcd s t = 1 → s.natAbs < 2 ^ 40 → t.natAbs < 2 ^ 40 → ptC a b c x y z s t = loneT X Y Z → R (.tuple [.int s, .int t])
  | _ => False
theorem spx_told_at {a b c x y z X Y Z : Int} {R : D → Prop} : sp_told_at [.tuple [.int a, .int b, .int c], .tuple [.int x, .int y, .int z], .tuple [.int X, .int Y, .int Z]] R = ((FormN a b c ∧ ZC a b c x y z ∧ ZC a b c X Y Z) ∧ ∀ s t : Int, Int.gcd s t = 1 → s.natAbs < 2 ^ 40 → t.natAbs < 2 ^ 40 → ptC a b c x y z s t = loneT X Y Z → R (.tuple [.int s, .int t])) := rfl
theorem ok_told_at : ∀ ds R, sp_told_at ds R → rd_told_at (fnE R) (startE 11 ds) := by
  intro ds R H
  unfold sp_told_at at H
  split at H
  · rename_i a b c x y z X Y Z
    obtain ⟨⟨⟨⟨a0, b0, c0⟩, ⟨ba, bb, bc⟩⟩, zc, ZC'⟩, H⟩ := H
    have bx := zc.bx
    have by' := zc.by'
    have bz := zc.bz
    have bX := ZC'.bx
    have bY := ZC'.by'
    have bZ := ZC'.bz
    have m6 : ∀ {u v : Int}, u.natAbs ≤ 59 → v.natAbs ≤ 59 → (u * v).natAbs ≤ 59 * 59 := fun h1 h2 => by rw [Int.natAbs_mul]; exact Nat.mul_le_mul h1 h2
    have m12 : ∀ {u v : Int}, u.natAbs ≤ 3485 → v.natAbs ≤ 59 → (u * v).natAbs ≤ 3485 * 59 := fun h1 h2 => by rw [Int.natAbs_mul]; exact Nat.mul_le_mul h1 h2
    have ok6 : ∀ {u v : Int}, u.natAbs ≤ 59 → v.natAbs ≤ 59 → CMulW u v := fun h1 h2 => mulOk (n := 6) (m := 6) (by omega) (by omega) (by decide)
    have fin : ∀ (s t : Int) (en : List Sl), ¬ (s = 0 ∧ t = 0) → s.natAbs < 2 ^ 30 → t.natAbs < 2 ^ 30 → ptC a b c x y z s t = loneT X Y Z → ∀ v0 v1 v2 v3 v4 v5 v8 v9 v10 : Sl, rd_told_at_c2 (fnE R) [v0, v1, v2, v3, v4, v5, .val (.int s), .val (.int t), v8, v9, v10] := by
      intro s t en nz bs bt pt v0 v1 v2 v3 v4 v5 v8 v9 v10
      unfold rd_told_at_c2
      walk_at "dd"
      have g0 : 0 < Int.gcd s t := by
        rcases Nat.eq_zero_or_pos (Int.gcd s t) with w | w
        · exact absurd (Int.gcd_eq_zero_iff.mp w) nz
        · exact w
      have gb : Int.gcd s t < 2 ^ 30 := by
        by_cases w : s = 0
        · subst w; rw [Int.gcd_zero_left]; exact bt
        · have : Int.gcd s t ≤ s.natAbs := Nat.le_of_dvd (by omega) (Nat.gcd_dvd_left s.natAbs t.natAbs)
          omega
      have q1 := Int.mul_ediv_cancel' (Int.gcd_dvd_left (a := s) (b := t))
      have q2 := Int.mul_ediv_cancel' (Int.gcd_dvd_right (a := s) (b := t))
      have l1 := Int.natAbs_ediv_le_natAbs s (Int.gcd s t)
      have l2 := Int.natAbs_ediv_le_natAbs t (Int.gcd s t)
      rw [fdiv_pos _ (by omega), fdiv_pos _ (by omega)]
      refine ⟨divOk (by omega) (n := 30) gb (by decide), divOk (by omega) (n := 30) gb (by decide), H _ _ ?_ (by omega) (by omega) ?_⟩
      · have e := Int.gcd_mul_left (Int.gcd s t : Int) (s / (Int.gcd s t : Int)) (t / (Int.gcd s t : Int))
        rw [q1, q2, Int.natAbs_natCast] at e
        exact Nat.eq_of_mul_eq_mul_left g0 (by omega)
      · rw [← pt, ← ptC_scale (k := (Int.gcd s t : Int)) (by omega), q1, q2]
    -- the pair, before its common divisor
    have tail : ∀ (s t : Int), s.natAbs < 2 ^ 30 → t.natAbs < 2 ^ 30 → (¬ (s = 0 ∧ t = 0) → ptC a b c x y z s t = loneT X Y Z) → (s = 0 → t = 0 → (x ≠ 0 → ¬ (c * z = 0 ∧ -(b * y) = 0) ∧ ptC a b c x y z (c * z) (-(b * y)) = loneT X Y Z) ∧ (x = 0 → ¬ (c * z = 0 ∧ -(a * x) = 0) ∧ ptC a b c x y z (c * z) (-(a * x)) = loneT X Y Z)) → ∀ v3 v4 v5 v8 v9 v10 : Sl,
        rd_told_at_c1 (fnE R) [.val (.tuple [.int a, .int b, .int c]), .val (.tuple [.int x, .int y, .int z]), .val (.tuple [.int X, .int Y, .int Z]), v3, v4, v5, .val (.int s), .val (.int t), v8, v9, v10] := by
      intro s t bs bt h1 h2 v3 v4 v5 v8 v9 v10
      have p40 : 59 < 2 ^ 40 := by decide
      have p12 : 3485 < 2 ^ 40 := by decide
      have B : ((a.natAbs < 2 ^ 40 ∧ b.natAbs < 2 ^ 40 ∧ c.natAbs < 2 ^ 40) ∧ (x.natAbs < 2 ^ 40 ∧ y.natAbs < 2 ^ 40 ∧ z.natAbs < 2 ^ 40)) := ⟨⟨by omega, by omega, by omega⟩, by omega, by omega, by omega⟩
      have c1 := m12 bc bz
      have c2 := m12 bb (show y.natAbs ≤ 59 by omega)
      have c3 := m12 ba (show x.natAbs ≤ 59 by omega)
      unfold rd_told_at_c1
      walk_at "dd"
      have ev := eqv_tupI [s, t] [0, 0]
      simp only [List.map_cons, List.map_nil] at ev
      rw [ev]
      refine ⟨⟨shaped_tupI [s, t], shaped_tupI [0, 0]⟩, ?_⟩
      by_cases st : s = 0 ∧ t = 0
      · rw [decide_eq_true (show [s, t] = [0, 0] by rw [st.1, st.2])]
        walk_at "dd"
        obtain ⟨k1, k2⟩ := h2 st.1 st.2
        refine ⟨zc.xy c0, fun x0 => ?_, fun x0 => ?_⟩
        · obtain ⟨n1, n2⟩ := k1 x0
          have e1 : vD 0 1 0 = .tuple [.int 0, .int 1, .int 0] := rfl
          have e2 : vD 0 0 1 = .tuple [.int 0, .int 0, .int 1] := rfl
          rw [e1, e2]
          refine then_intro ?_
          walk_at "dd"
          rw [show a * x * 0 + b * y * 1 + c * z * 0 = b * y by omega, show a * x * 0 + b * y * 0 + c * z * 1 = c * z by omega]
          refine ⟨⟨B.1, B.2, by decide⟩, ⟨B.1, B.2, by decide⟩, then_intro ?_⟩
          exact fin _ _ [] n1 (by omega) (by omega) n2 _ _ _ _ _ _ _ _ _
        · obtain ⟨n1, n2⟩ := k2 x0
          have e1 : vD 1 0 0 = .tuple [.int 1, .int 0, .int 0] := rfl
          have e2 : vD 0 0 1 = .tuple [.int 0, .int 0, .int 1] := rfl
          rw [e1, e2]
          refine then_intro ?_
          walk_at "dd"
          rw [show a * x * 1 + b * y * 0 + c * z * 0 = a * x by omega, show a * x * 0 + b * y * 0 + c * z * 1 = c * z by omega]
          refine ⟨⟨B.1, B.2, by decide⟩, ⟨B.1, B.2, by decide⟩, then_intro ?_⟩
          exact fin _ _ [] n1 (by omega) (by omega) n2 _ _ _ _ _ _ _ _ _
      · rw [decide_eq_false (show ¬ [s, t] = [0, 0] from fun w => st (by simpa using w))]
        walk_at "dd"
        exact then_intro (fin s t [] st bs bt (h1 st) _ _ _ _ _ _ _ _ _)
    have zz0 : ¬ (x = 0 ∧ y = 0 ∧ z = 0) := zc.nz
    unfold rd_told_at
    walk_at "dd"
    refine ⟨by decide, ?_⟩
    rw [range3]
    refine lc_ints (ns := [0, 1, 2]) (fun k => decide (([x, y, z].getD k.toNat 0) ≠ 0)) (fun _ => by decide) (fun k hk P hP => ?_) ?_
    · simp only [List.mem_cons, List.not_mem_nil, or_false] at hk
      have go : ∀ (n v : Int), n = k → v = [x, y, z].getD k.toNat 0 → (v = 0 → P none) ∧ (v ≠ 0 → P (some (.int n))) := fun n v e1 e2 => by
        subst e1 e2
        exact ⟨fun w => by rw [decide_eq_false (fun q => q w)] at hP; exact hP, fun w => by rw [decide_eq_true w] at hP; exact hP⟩
      rcases hk with rfl | rfl | rfl
      · have := go 0 x rfl rfl
        walk_at "dd"
        exact this
      · have := go 1 y rfl rfl
        walk_at "dd"
        exact this
      · have := go 2 z rfl rfl
        walk_at "dd"
        exact this
    · by_cases hx : x = 0
      · have hy : y ≠ 0 := (zc.xy c0).resolve_left (fun w => w hx)
        have e : [0, 1, 2].filter (fun k : Int => decide (([x, y, z].getD k.toNat 0) ≠ 0)) = 1 :: [2].filter (fun k : Int => decide (([x, y, z].getD k.toNat 0) ≠ 0)) := by
          rw [List.filter_cons_of_neg (by show ¬ decide (x ≠ 0) = true; simp [hx]), List.filter_cons_of_pos (by show decide (y ≠ 0) = true; simp [hy])]
        rw [e, List.map_cons]
        walk_at "dd"
        refine ⟨by decide, ?_⟩
        rw [range3]
        refine lc_ints (ns := [0, 1, 2]) (fun k => decide (k ≠ 1)) (fun _ => by decide) (fun k hk P hP => ?_) ?_
        · walk_at "dd"
          exact ⟨fun w => by rw [decide_eq_false (fun q => q w)] at hP; exact hP, fun w => by rw [decide_eq_true w] at hP; exact hP⟩
        have e2 : [0, 1, 2].filter (fun k : Int => decide (k ≠ 1)) = [0, 2] := by decide
        rw [e2]
        refine then_intro ?_
        walk_at "dd"
        refine lc_map (xs := [0, 2]) (f := PyData.int) (k := PyData.int) (p := fun k : Int => some (if k = 0 then X * y - x * Y else Z * y - z * Y)) (fun w => nomatch w) (fun k hk P hP => ?_) ?_
        · simp only [List.mem_cons, List.not_mem_nil, or_false] at hk
          rcases hk with rfl | rfl
          · rw [if_pos rfl] at hP
            walk_at "dd"
            exact ⟨ok6 (by omega) (by omega), ok6 (by omega) (by omega), hP⟩
          · rw [if_neg (by decide)] at hP
            walk_at "dd"
            exact ⟨ok6 (by omega) (by omega), ok6 (by omega) (by omega), hP⟩
        have e3 : ([0, 2].filterMap fun k : Int => some (if k = 0 then X * y - x * Y else Z * y - z * Y)) = [X * y - x * Y, Z * y - z * Y] := rfl
        rw [e3]
        have b1 := m6 (show X.natAbs ≤ 59 by omega) (show y.natAbs ≤ 59 by omega)
        have b2 := m6 (show x.natAbs ≤ 59 by omega) (show Y.natAbs ≤ 59 by omega)
        have b3 := m6 (show Z.natAbs ≤ 59 by omega) (show y.natAbs ≤ 59 by omega)
        have b4 := m6 (show z.natAbs ≤ 59 by omega) (show Y.natAbs ≤ 59 by omega)
        walk_at "dd"
        refine then_intro (tail (X * y - x * Y) (Z * y - z * Y) (by omega) (by omega) ?_ ?_ _ _ _ _ _ _)
        · intro st
          subst hx
          exact told_neg a0 b0 c0 (by have := zc.zero; rw [← this]; grind) ZC'.zero hy st
        · intro e1 e2
          subst hx
          refine ⟨fun w => absurd rfl w, fun _ => ?_⟩
          exact told_negT a0 b0 c0 (by have := zc.zero; rw [← this]; grind) ZC'.zero hy ZC'.nz e1 e2
      · have e : [0, 1, 2].filter (fun k : Int => decide (([x, y, z].getD k.toNat 0) ≠ 0)) = 0 :: [1, 2].filter (fun k : Int => decide (([x, y, z].getD k.toNat 0) ≠ 0)) := by
          rw [List.filter_cons_of_pos (by show decide (x ≠ 0) = true; simp [hx])]
        rw [e, List.map_cons]
        walk_at "dd"
        refine ⟨by decide, ?_⟩
        rw [range3]
        refine lc_ints (ns := [0, 1, 2]) (fun k => decide (k ≠ 0)) (fun _ => by decide) (fun k hk P hP => ?_) ?_
        · walk_at "dd"
          exact ⟨fun w => by rw [decide_eq_false (fun q => q w)] at hP; exact hP, fun w => by rw [decide_eq_true w] at hP; exact hP⟩
        have e2 : [0, 1, 2].filter (fun k : Int => decide (k ≠ 0)) = [1, 2] := by decide
        rw [e2]
        refine then_intro ?_
        walk_at "dd"
        refine lc_map (xs := [1, 2]) (f := PyData.int) (k := PyData.int) (p := fun k : Int => some (if k = 1 then Y * x - y * X else Z * x - z * X)) (fun w => nomatch w) (fun k hk P hP => ?_) ?_
        · simp only [List.mem_cons, List.not_mem_nil, or_false] at hk
          rcases hk with rfl | rfl
          · rw [if_pos rfl] at hP
            walk_at "dd"
            exact ⟨ok6 (by omega) (by omega), ok6 (by omega) (by omega), hP⟩
          · rw [if_neg (by decide)] at hP
            walk_at "dd"
            exact ⟨ok6 (by omega) (by omega), ok6 (by omega) (by omega), hP⟩
        have e3 : ([1, 2].filterMap fun k : Int => some (if k = 1 then Y * x - y * X else Z * x - z * X)) = [Y * x - y * X, Z * x - z * X] := rfl
        rw [e3]
        have b1 := m6 (show Y.natAbs ≤ 59 by omega) (show x.natAbs ≤ 59 by omega)
        have b2 := m6 (show y.natAbs ≤ 59 by omega) (show X.natAbs ≤ 59 by omega)
        have b3 := m6 (show Z.natAbs ≤ 59 by omega) (show x.natAbs ≤ 59 by omega)
        have b4 := m6 (show z.natAbs ≤ 59 by omega) (show X.natAbs ≤ 59 by omega)
        walk_at "dd"
        refine then_intro (tail (Y * x - y * X) (Z * x - z * X) (by omega) (by omega) ?_ ?_ _ _ _ _ _ _)
        · intro st
          exact told_pos a0 b0 c0 zc.zero ZC'.zero hx st
        · intro e1 e2
          refine ⟨fun _ => ?_, fun w => absurd w hx⟩
          exact told_posT a0 b0 c0 zc.zero ZC'.zero hx ZC'.nz e1 e2
  · exact H.elim
local macro_rules | `(tactic| walk_at "d1") => `(tactic| try simp only [dSeq, dSkip, dPass, dRet, dRetN, dDrop, dCond, dAsg, gNm, gTp, dOwn, dOwnL, dPar, dAug, dApp, dExt, dFrz, dFor, dLc, dBreak, dCont, dVar, dC, dOp, dT, dIsi, dNeg, dNot, dTNot, dAnd, dOr, dTAnd, dTOr, dIf, dCh, dNil, dCons, dTup, dLst, dIxO, dB, dCall, dCallW, dItems, dRng1, dRng2, dYes, fnE, startE, startW, startS, dLenO, dLenS, dIxS, dSl, dPt, dNo, wipeE, addD_int, addD_str, addD_tup, addD_lst, subD_int, mulD_int, mulD_tup, mulD_lst, fdivD_int, modD_int, powD_int, shlD_int, shrD_int, andD_int, ltD_int, leD_int, gtD_int, geD_int, eqD_ap, neD_ap, isD_ap, isNotD_ap, isNon_none, isNon_int, isNon_bool, isNon_str, isNon_tup, isNon_lst, isInt_none, isInt_int, isInt_bool, isInt_str, isInt_tup, isInt_lst, isBool_none, isBool_int, isBool_bool, isBool_str, isBool_tup, isBool_lst, isStr_none, isStr_int, isStr_bool, isStr_str, isStr_tup, isStr_lst, isTup_none, isTup_int, isTup_bool, isTup_str, isTup_tup, isTup_lst, isLst_lst, Cnd_true, Cnd_false, Cnd_not, Cnd_dec, asB_bool, forall_const, true_implies, false_implies, implies_true, decide_true, decide_false, Classical.not_not, negD_int, notD_bool, onVal_val, onOwn_own, onDic_dic, onScr_scr, onWv_wv, onInt_int, onTup_tup, onLst_lst, onItems_lst, onItems_tup, frz1_own, frz1_val, frz1_un, ixD_lst, ixD_tup, ixL_int, optD_some, optI_some, absD_int, intD_int, intD_bool, lenD_lst, lenD_tup, lenD_str, tupleD_lst, tupleD_tup, listD_lst, listD_tup, min2D_int, max2D_int, sumD_ints, allD_bls, anyD_bls, slD_lst, slD_tup, slD_str, gNl_nil, gCs_cons, par2_two, seq1_lst, seq1_tup, rng1D_int, rng2D_int, gt_z, gt_s, sp_next_int, set_z, set_s, List.map_cons, List.map_nil, List.length_cons, List.length_nil, List.cons_append, List.nil_append, List.replicate, Nat.reduceAdd, Nat.reduceSub, Nat.zero_add, shaped_int, shaped_bool, shaped_none, shaped_listI, shaped_tupI, shaped_nilL, shaped_nilT, eqv_int, eqv_bool, eqv_str, eqv_none, eqv_list_nil, List.isEmpty_nil, List.isEmpty_cons, Bool.true_eq_false, Bool.false_eq_true, decide_eq_true_eq, and_self, true_and, and_true, not_dec, Bool.not_eq_true', decide_eq_false_iff_not, atI_0, atI_1, atI_2, ite_true, ite_false, if_true, if_false, reduceIte, Bool.not_true, Bool.not_false, not_true_eq_false, not_false_eq_true, List.set_cons_zero, List.set_cons_succ, dPar3, dRev, par3_three, sortedD_ints, revD_tup, two_nat, one_nat, three_nat, dCh3, dOwnC, dPutPar, putPar_two, dZip2, zip2D_lst, zip2D_tup, dPut, isBD_bl, isNotBD_bl, dNewO, dPutO, dSortedO, putKD_int, dPar3O, dParO2, par3O_two, parO2_one, minLD_lst, dKeysW, rdPairs_nil, rdPairs_cons, onPair_ii, inTD_lst, gTl, dAugS, dZip3, zip3D_tup, zip3L_cons, zip3L_nil, revD_lst, spx_between, spx_directions, spx_law_common_v2, spx_law_lone_t, spx_law_lone_l, spx_curve_of, spx_law_zeros, spx_law_drawn_v1, spx_law_is_number_v2, spx_signed, spx_common, spx_lowest, spx_told_at])
local macro_rules | `(tactic| walk_at "dd") => `(tactic| (walk_at "d1"; repeat (with_reducible (refine then_intro ?_); walk_at "d1")))
def rd_law_k25_c1 : DTS :=
  (dSeq (dAsg (dCallW 1 sp_law_pick (dCons (dLst (dCons (dVar 8) (dCons (dB tupleD (dCons (dLc true (dItems (dVar 8)) (gNm 9) dYes (dOp subD (dC (.int 0)) (dVar 9)) [9]) dNil)) dNil))) dNil)) (gNm 8)) (dSeq (dAsg (dCall sp_told_at (dCons (dVar 3) (dCons (dVar 5) (dCons (dVar 8) dNil)))) (gNm 10)) (dCond (dTOr (dTNot (dT (dCall sp_law_is_numbers (dCons (dVar 10) (dCons (dC (.int 2)) dNil))))) (dTOr (dT (dOp neD (dCall sp_law_common_v2 (dCons (dOp ixD (dVar 10) (dC (.int 0))) (dCons (dOp ixD (dVar 10) (dC (.int 1))) dNil))) (dC (.int 1)))) (dT (dOp neD (dCall sp_law_at (dCons (dVar 6) (dCons (dOp ixD (dVar 10) (dC (.int 0))) (dCons (dOp ixD (dVar 10) (dC (.int 1))) dNil)))) (dCall sp_law_lone (dCons (dVar 8) dNil)))))) (dRet (dC (.bool false))) dSkip)))
def rd_law_k25_b1 : DTS :=
  (dSeq (dAsg (dIf (dT (dOp ltD (dB lenD (dCons (dVar 4) dNil)) (dC (.int 12)))) (dOp ixD (dVar 4) (dVar 7)) (dCallW 1 sp_law_pick (dCons (dVar 4) dNil))) (gNm 8)) rd_law_k25_c1)
def rd_law_k25_b2 : DTS :=
  (dSeq (dAsg (dCallW 1 sp_law_drawn_v1 dNil) (gTp 2 (gCs (gNm 3) (gCs (gNm 4) gNl)))) (dSeq (dAsg (dCallW 1 sp_law_pick (dCons (dVar 4) dNil)) (gNm 5)) (dSeq (dAsg (dCall sp_curve_of (dCons (dVar 3) (dCons (dVar 5) dNil))) (gNm 6)) (dFor (dRng1 (dCons (dB min2D (dCons (dC (.int 12)) (dCons (dB lenD (dCons (dVar 4) dNil)) dNil))) dNil)) (gNm 7) rd_law_k25_b1))))
def rd_law_k25 : DTS :=
  (dSeq (dFor (dRng1 (dCons (dC (.int 2)) dNil)) (gNm 2) rd_law_k25_b2) (dRet (dC (.bool true))))
theorem pair_num {s t : Int} {R : D → Prop} (h : R (.bool true)) : sp_law_is_numbers [.tuple [.int s, .int t], .int 2] R := is_numbers_ok ⟨[s, t], rfl, rfl⟩ h
theorem ok_law_k25 : rd_law_k25 (fnE fun d => d = .bool true) (.un :: .wv :: List.replicate 9 .un) := by
  unfold rd_law_k25
  walk_at "dd"
  refine ⟨by decide, ?_⟩
  refine for_by (fun (s : Sl × Sl × Sl × Sl × Sl × Sl × Sl × Sl × Sl) => [.un, .wv, s.1, s.2.1, s.2.2.1, s.2.2.2.1, s.2.2.2.2.1, s.2.2.2.2.2.1, s.2.2.2.2.2.2.1, s.2.2.2.2.2.2.2.1, s.2.2.2.2.2.2.2.2]) (fun _ _ => True) (.un, .un, .un, .un, .un, .un, .un, .un, .un) rfl trivial ?_ ?_
  · rintro i e he ⟨u1, u2, u3, u4, u5, u6, u7, u8, u9⟩ _ bk
    unfold rd_law_k25_b2
    walk_at "dd"
    intro a b c ms ⟨⟨a0, b0, c0⟩, fb⟩ ne hz
    refine then_intro ?_
    walk_at "dd"
    refine ⟨by cases ms with | nil => exact absurd rfl ne | cons m ms => exact List.cons_ne_nil _ _, fun d hd => ?_⟩
    obtain ⟨m, hm, rfl⟩ := List.mem_map.mp hd
    obtain ⟨x, y, z, rfl, zc⟩ := ZC.of (hz m hm)
    have et : tupD [x, y, z] = .tuple [.int x, .int y, .int z] := rfl
    rw [et]
    refine then_intro ?_
    obtain ⟨r0, r1, r2, er, fl⟩ := curve_flat zc.zero
    have rb := curve_bound fb zc
    walk_at "dd"
    have bx := zc.bx
    have by' := zc.by'
    have bz := zc.bz
    refine ⟨⟨zc.xy c0, ⟨by omega, by omega, by omega⟩, by omega, by omega, by omega⟩, ?_⟩
    rw [er] at rb ⊢
    have hr0 : RowB r0 := rb r0 (by simp)
    have hr1 : RowB r1 := rb r1 (by simp)
    have hr2 : RowB r2 := rb r2 (by simp)
    refine then_intro ?_
    walk_at "dd"
    generalize hn : (if ((ms.map tupD).length : Int) < 12 then ((ms.map tupD).length : Int) else 12) = n
    have nb : n ≤ 12 ∧ n ≤ (ms.length : Int) ∧ 0 ≤ n := by
      rw [List.length_map] at hn
      rw [← hn]
      split <;> omega
    have p62 : (12 : Int) < 2 ^ 62 := by decide
    have m62 : -(2 : Int) ^ 62 ≤ 0 := by decide
    refine ⟨⟨by omega, by omega⟩, ?_⟩
    refine for_by (fun (s : Sl × Sl × Sl × Sl) => [.un, .wv, .val e, .val (.tuple [.int a, .int b, .int c]), .val (.list (ms.map tupD)), .val (.tuple [.int x, .int y, .int z]), .val (.tuple [rowD r0, rowD r1, rowD r2]), s.1, s.2.1, s.2.2.1, s.2.2.2]) (fun _ _ => True) (u6, u7, u8, u9) rfl trivial ?_ ?_
    · rintro j d hd2 ⟨v1, v2, v3, v4⟩ _ bk2
      obtain ⟨hj, rfl⟩ := rangeD_get hd2
      rw [Int.zero_add]
      have main : ∀ (m : List Int), m ∈ ms → rd_law_k25_c1 { nx := fun en' => ∃ a' : Sl × Sl × Sl × Sl, en' = [.un, .wv, .val e, .val (.tuple [.int a, .int b, .int c]), .val (.list (ms.map tupD)), .val (.tuple [.int x, .int y, .int z]), .val (.tuple [rowD r0, rowD r1, rowD r2]), a'.1, a'.2.1, a'.2.2.1, a'.2.2.2], rt := fun d => d = .bool true, bk := bk2, ct := fun en' => ∃ a' : Sl × Sl × Sl × Sl, en' = [.un, .wv, .val e, .val (.tuple [.int a, .int b, .int c]), .val (.list (ms.map tupD)), .val (.tuple [.int x, .int y, .int z]), .val (.tuple [rowD r0, rowD r1, rowD r2]), a'.1, a'.2.1, a'.2.2.1, a'.2.2.2] }
          [.un, .wv, .val e, .val (.tuple [.int a, .int b, .int c]), .val (.list (ms.map tupD)), .val (.tuple [.int x, .int y, .int z]), .val (.tuple [rowD r0, rowD r1, rowD r2]), .val (.int (j : Int)), .val (tupD m), v3, v4] := fun m hm => by
        obtain ⟨X0, Y0, Z0, rfl, zc0⟩ := ZC.of (hz m hm)
        have et : tupD [X0, Y0, Z0] = .tuple [.int X0, .int Y0, .int Z0] := rfl
        rw [et]
        unfold rd_law_k25_c1
        walk_at "dd"
        refine lc_map (xs := [X0, Y0, Z0]) (f := PyData.int) (k := PyData.int) (p := fun n => some (0 - n)) (fun w => nomatch w) (fun n hn P hP => ?_) ?_
        · walk_at "dd"
          exact hP
        have ef : ([X0, Y0, Z0].filterMap fun n : Int => some (0 - n)) = [0 - X0, 0 - Y0, 0 - Z0] := rfl
        rw [ef]
        walk_at "dd"
        refine pick_zero zc0 fun X Y Z zc1 => ?_
        refine then_intro ?_
        walk_at "dd"
        refine ⟨⟨⟨⟨a0, b0, c0⟩, fb⟩, zc, zc1⟩, fun s t g1 bs bt pt => ?_⟩
        refine then_intro ?_
        walk_at "dd"
        refine pair_num ?_
        walk_at "dd"
        have p1 : 2 ^ 40 ≤ 2 ^ 480 := Nat.pow_le_pow_right (by decide) (by decide)
        have p2 : 100 < 2 ^ 200 := by decide
        have k1 := zc1.bx
        have k2 := zc1.by'
        have k3 := zc1.bz
        refine ⟨⟨by omega, by omega⟩, fun _ => ?_, fun w => absurd (by rw [g1]; rfl) w⟩
        refine la_call er hr0 hr1 hr2 bs bt ?_
        refine ⟨⟨by omega, by omega, by omega⟩, ⟨lone_sh _, lone_sh _⟩, ?_⟩
        rw [pt, eqv_lone, decide_eq_true rfl]
        walk_at "dd"
        exact ⟨(_, _, _, _), rfl⟩
      unfold rd_law_k25_b1
      walk_at "dd"
      have hj' : j < ms.length := by omega
      refine ⟨fun _ => ?_, fun _ => ?_⟩
      · rw [atI_nat (v := tupD ms[j]) (by rw [List.getElem?_map, List.getElem?_eq_getElem hj']; rfl)]
        exact then_intro (main _ (List.getElem_mem hj'))
      · refine ⟨by cases ms with | nil => exact absurd rfl ne | cons m ms => exact List.cons_ne_nil _ _, fun d hd => ?_⟩
        obtain ⟨m, hm, rfl⟩ := List.mem_map.mp hd
        exact then_intro (main m hm)
    · rintro ⟨v1, v2, v3, v4⟩ _
      exact ⟨(_, _, _, _, _, _, _, _, _), rfl⟩
  · rintro ⟨u1, u2, u3, u4, u5, u6, u7, u8, u9⟩ _
    walk_at "dd"
def top (i : Nat) : Stmt := PySem.Challenge.pw_placewise_k25_zeros_told_by_curves.main.body.getD i (.Pass ⟨0, 0, 0, 0⟩)
section
variable {P : Program} {w : World} {K : PySem.W.Frag} {mg : Str → Option Value} {base : Heap}
abbrev s_law_draws : Stmt := top 10
theorem sc_law_draws : FnScope ["script", "many", "draws", "mixed", "k", "cell", "rest", "turn"] ["script", "many"] (defScope s_law_draws) := ⟨rfl, rfl, rfl, by decide +kernel, rfl, by decide +kernel, by decide +kernel⟩
theorem fn_law_draws {f : Addr} {fd : FuncData} (F : Fun K "_law_draws" "_law_draws" s_law_draws f fd) (z_len : mg "len" = none) (z_range : mg "range" = none) (z_int : mg "int" = none) (z_abs : mg "abs" = none) : FnOk P w K mg base CX0 1 f fd ["script", "many"] (liftSpS K 1 sp_draws) :=
  def_okS (k := 0) (m := rd_law_draws) F sc_law_draws (by decide) (fun cdv A outer s H E c hr =>
    have hu := hr.units
    have nd := sc_law_draws.nd
    (dss_cons (sown 2 nd da_nil)
    (dss_cons (sset 3 nd de_int)
    (dss_cons (ds_for PassesOwn.never rfl (di_range1 (by rfl) z_range (da_cons (de_lenS 0 z_len) da_nil)) (gn 4 nd) (dss_cons (sset 5 nd (de_abs (by rfl) z_abs (da_cons (de_int1 (by rfl) z_int (da_cons (de_ixS 0 (nv 4)) da_nil)) da_nil)))
    (dss_cons (sset 3 nd (de_mod (de_int1 (by rfl) z_int (da_cons (de_add (de_add (de_mul (nv 3) de_int) (de_mod (nv 5) de_int)) (nv 4)) da_nil)) de_int))
    (dss_cons (sset 6 nd de_int)
    (dss_cons (ds_if (dt_ge (nv 5) (de_pow de_int de_int)) (dss_one (sset 6 nd (nv 5))) (dss_cons (sapp 2 (de_mod (de_int1 (by rfl) z_int (da_cons (nv 5) da_nil)) de_int))
    (dss_one (sapp 2 (de_mod (de_mod (de_int1 (by rfl) z_int (da_cons (de_add (de_mul (nv 3) de_int) de_int) da_nil)) de_int) de_int)))))
    (dss_one (ds_for PassesOwn.never rfl (di_range1 (by rfl) z_range (da_cons de_int da_nil)) (gn 7 nd) (dss_one (ds_if (dt_gt (nv 6) de_int) (dss_cons (sapp 2 (de_mod (de_int1 (by rfl) z_int (da_cons (nv 6) da_nil)) de_int))
    (dss_one (sset 6 nd (de_fdiv (nv 6) de_int)))) dss_nil)))))))))
    (dss_cons (ds_for PassesOwn.never rfl (di_range1 (by rfl) z_range (da_cons (nv 1) da_nil)) (gn 4 nd) (dss_cons (sset 3 nd (de_mod (de_int1 (by rfl) z_int (da_cons (de_add (de_add (de_mul (nv 3) de_int) (nv 4)) de_int) da_nil)) de_int))
    (dss_one (sapp 2 (de_mod (de_int1 (by rfl) z_int (da_cons (nv 3) da_nil)) de_int)))))
    (dss_one (ds_frz 2 (ds_ret (de_slice (nv 2) do_none (do_some (nv 1))))))))))) (fun ns ds R _ h63 h => ok_law_draws ns ds R h63 h)
abbrev s_law_next : Stmt := top 11
theorem sc_law_next : FnScope ["w", "many"] ["w", "many"] (defScope s_law_next) := ⟨rfl, rfl, rfl, by decide +kernel, rfl, by decide +kernel, by decide +kernel⟩
theorem fn_law_next {f : Addr} {fd : FuncData} (F : Fun K "_law_next" "_law_next" s_law_next f fd) (z_len : mg "len" = none) (z_int : mg "int" = none) : FnOk P w K mg base CX0 1 f fd ["w", "many"] (liftSpW K 1 sp_next) := by
  refine F.ok sc_law_next (fun vs H Q E h => ?_) (fun cdv A outer s H vs Q E hr h => ?_)
  · obtain ⟨_, _, _, _, _, rfl, h, _⟩ := h
    rw [List.length_cons, h]
    rfl
  obtain ⟨p, us, F0, ds, R, rfl, hl, hF, hn, hw, rv, hsp, kk⟩ := h
  have hu := hu_of hr
  obtain ⟨n, ns, h1, h2, h0, hns⟩ := hw
  have npd : p.1 ≠ p.2 := ne_of h1 h2 (by intro z; cases z)
  unfold sp_next at hsp
  split at hsp
  · rename_i many
    obtain ⟨v, rfl, r1⟩ := rv.one
    cases r1
    obtain ⟨m0, hsp⟩ := hsp
    have fin : ∀ (r : Int), 0 ≤ r → r < many → r < 997 → Q (.int r) (upd H p.1 (.dK [(.inr "draws", .ref p.2), (.inr "at", .int (n + 1))])) := fun r a b c => by
      refine kk _ (hsp r a b c) (.int r) F0 _ ⟨fun _ _ e => e, fun b o e => ?_, fun b o e nb => ?_, fun _ _ e z => (nomatch e.symm.trans z), fun q e => ?_⟩ (.int _)
      · rw [upd_ne (fun z => by subst z; rw [hn] at e; cases e)]; exact hF _ _ e
      · rw [upd_ne (fun z => nb ⟨p.2, by rw [z]⟩)]; exact e
      · cases e
        exact ⟨n + 1, ns, upd_same, by rw [upd_ne npd.symm]; exact h2, by omega, hns⟩
    refine ⟨_, pss_cons (ps_daug hu (pv 0) pe_str pe_int in_add (fun _ _ _ => rfl))
      (pss_cons (ps_if (pt_cmpR op_gt (pe_dget hu (pv 0) pe_str (fun _ _ => rfl)) (pe_callB call_len_seq rfl z_len PySem.boot_len (pa_cons (pe_dget hu (pv 0) pe_str (fun _ _ => rfl)) pa_nil)) (nomark _)) (pss_one (ps_ret pe_int)) pss_nil)
      (pss_one (ps_ret (pe_op op_mod (pe_callTy call_int1 rfl z_int boot_int (pa_cons (pe_ix ix_list (pe_dget hu (pv 0) pe_str (fun _ _ => rfl)) (pe_op op_sub (pe_dget hu (pv 0) pe_str (fun _ _ => rfl)) pe_int) (fun _ _ => rfl)) pa_nil)) (pv 1))))), ?_⟩
    have g1 : DGet H p.1 (.str "at") (some (.int n)) := DGet.k (k := .inr "at") h1
    have hH : putK [((.inr "draws" : Key), V.ref p.2), (.inr "at", .int n)] (.inr "at") (.int (n + 1)) = [(.inr "draws", .ref p.2), (.inr "at", .int (n + 1))] := rfl
    have hp : DPut H p.1 (.str "at") (.int (n + 1)) (upd H p.1 (.dK [(.inr "draws", .ref p.2), (.inr "at", .int (n + 1))])) := hH ▸ DPut.k (k := .inr "at") h1 (by show 2 < sizeLine; decide)
    generalize hH' : upd H p.1 (.dK [(.inr "draws", .ref p.2), (.inr "at", .int (n + 1))]) = H' at fin hp
    have e1 : H' p.1 = some (.dK [(.inr "draws", .ref p.2), (.inr "at", .int (n + 1))]) := by rw [← hH']; exact upd_same
    have e2 : H' p.2 = some (.lst (ns.map V.int)) := by rw [← hH', upd_ne npd.symm]; exact h2
    have ga : DGet H' p.1 (.str "at") (some (.int (n + 1))) := DGet.k (k := .inr "at") e1
    have gd : DGet H' p.1 (.str "draws") (some (.ref p.2)) := DGet.k (k := .inr "draws") e1
    refine ⟨_, rfl, p.1, _, rfl, g1, _, _, rfl, rfl, _, hp, ?_⟩
    refine ⟨_, rfl, p.1, _, rfl, ga, _, rfl, p.1, _, rfl, gd, p.2, _, rfl, .inl (SqL.of e2), _, _, rfl, rfl, ?_⟩
    have el : ((ns.map V.int).length : Int) = (ns.length : Int) := by rw [List.length_map]
    rw [el]
    refine ⟨_, rfl, ?_⟩
    refine ite2 (fun c => ?_) (fun c => ?_)
    · exact fin 0 (Int.le_refl 0) m0 (by decide)
    · have c' : ¬ (n + 1 > (ns.length : Int)) := of_decide_eq_false (Bool.eq_false_iff.mpr c)
      have hk : n.toNat < ns.length := by omega
      have ek : n + 1 - 1 = ((n.toNat : Nat) : Int) := by omega
      have q : atI (ns.map V.int) (n + 1 - 1) = some (.int ns[n.toNat]) := by
        rw [ek]; exact atI_nat (by rw [List.getElem?_map, List.getElem?_eq_getElem hk]; rfl)
      have hr := hns _ (List.getElem_mem hk)
      refine ⟨_, rfl, p.1, _, rfl, gd, _, rfl, p.1, _, rfl, ga, _, _, rfl, rfl, p.2, _, _, _, rfl, rfl, SqL.of e2, q, .inl ⟨_, rfl, _, rfl, ?_⟩⟩
      refine ⟨_, _, rfl, rfl, m0, ?_⟩
      exact fin _ (Int.emod_nonneg _ (by omega)) (Int.emod_lt_of_pos _ m0) (by
        by_cases z : ns[n.toNat] < many
        · rw [Int.emod_eq_of_lt hr.1 z]; exact hr.2
        · exact Int.lt_trans (Int.lt_of_lt_of_le (Int.emod_lt_of_pos _ m0) (Int.not_lt.mp z)) hr.2)
  · exact hsp.elim
abbrev s_law_pick : Stmt := top 12
theorem sc_law_pick : FnScope ["w", "rows"] ["w", "rows"] (defScope s_law_pick) := ⟨rfl, rfl, rfl, by decide +kernel, rfl, by decide +kernel, by decide +kernel⟩
theorem fn_law_pick {f : Addr} {fd : FuncData} (F : Fun K "_law_pick" "_law_pick" s_law_pick f fd) (z_len : mg "len" = none) (h_law_next : Has P w K mg base 1 "_law_next" ["w", "many"] (liftSpW K 1 sp_next)) : FnOk P w K mg base CX0 2 f fd ["w", "rows"] (liftSpW K 1 sp_law_pick) :=
  def_okW (k := 1) (m := rd_law_pick) F sc_law_pick (by decide) (fun cdv A outer s H E c hr =>
    have hu := hr.units
    have nd := sc_law_pick.nd
    (dss_one (ds_ret (de_ix (nv 1) (kallW 0 h_law_next hr (da_cons (de_len (by rfl) z_len (da_cons (nv 1) da_nil)) da_nil)))))) (fun ds R _ h => ok_law_pick ds R h)
abbrev s_law_small : Stmt := top 17
theorem sc_law_small : FnScope ["w", "n"] ["w"] (defScope s_law_small) := ⟨rfl, rfl, rfl, by decide +kernel, rfl, by decide +kernel, by decide +kernel⟩
theorem fn_law_small {f : Addr} {fd : FuncData} (F : Fun K "_law_small" "_law_small" s_law_small f fd) (h_law_pick : Has P w K mg base 2 "_law_pick" ["w", "rows"] (liftSpW K 1 sp_law_pick)) (h_law_next : Has P w K mg base 1 "_law_next" ["w", "many"] (liftSpW K 1 sp_next)) : FnOk P w K mg base CX0 3 f fd ["w"] (liftSpW K 0 sp_law_small_v2) :=
  def_okW (k := 2) (m := rd_law_small_v2) F sc_law_small (by decide) (fun cdv A outer s H E c hr =>
    have hu := hr.units
    have nd := sc_law_small.nd
    (dss_cons (sset 1 nd (kallW 0 h_law_pick hr (da_cons (de_lst (da_cons de_int (da_cons de_int (da_cons de_int (da_cons de_int (da_cons de_int (da_cons de_int (da_cons de_int (da_cons de_int (da_cons de_int (da_cons de_int (da_cons de_int (da_cons de_int (da_cons de_int (da_cons de_int (da_cons (de_add de_int (kallW 0 h_law_next hr (da_cons de_int da_nil))) da_nil)))))))))))))))) da_nil)))
    (dss_one (ds_ret (de_if (dt_eq (hu) (kallW 0 h_law_next hr (da_cons de_int da_nil)) de_int) (nv 1) (de_sub de_int (nv 1))))))) (fun ds R _ h => ok_law_small_v2 ds R h)
abbrev s_law_form : Stmt := top 16
theorem sc_law_form : FnScope ["w", "k", "a", "b", "x", "y", "z", "c", "d"] ["w"] (defScope s_law_form) := ⟨rfl, rfl, rfl, by decide +kernel, rfl, by decide +kernel, by decide +kernel⟩
theorem fn_law_form {f : Addr} {fd : FuncData} (F : Fun K "_law_form" "_law_form" s_law_form f fd) (z_range : mg "range" = none) (z_tuple : mg "tuple" = none) (z_int : mg "int" = none) (h_law_next : Has P w K mg base 1 "_law_next" ["w", "many"] (liftSpW K 1 sp_next)) (h_law_small : Has P w K mg base 3 "_law_small" ["w"] (liftSpW K 0 sp_law_small_v2)) (h_law_pick : Has P w K mg base 2 "_law_pick" ["w", "rows"] (liftSpW K 1 sp_law_pick)) : FnOk P w K mg base CX0 4 f fd ["w"] (liftSpW K 0 sp_law_form_v2) :=
  def_okW (k := 3) (m := rd_law_form_v2) F sc_law_form (by decide) (fun cdv A outer s H E c hr =>
    have hu := hr.units
    have nd := sc_law_form.nd
    (dss_cons (ds_if (dt_eq (hu) (kallW 0 h_law_next hr (da_cons de_int da_nil)) de_int) (dss_one (ds_ret (de_tuple (by rfl) z_tuple (da_cons (de_lc (own := [("k", 1)]) rfl nd (di_range1 (by rfl) z_range (da_cons de_int da_nil)) (blkOk_by (by kernel_rfl)) (fun _ _ _ _ _ => (gn 1 nd)) (fun _ _ _ _ _ => dts_nil) (fun _ _ _ _ _ => (kallW 0 h_law_small hr da_nil))) da_nil)))) dss_nil)
    (dss_cons (ds_asg (de_tup (da_cons (kallW 0 h_law_small hr da_nil) (da_cons (kallW 0 h_law_small hr da_nil) (da_cons (kallW 0 h_law_next hr (da_cons de_int da_nil)) (da_cons (de_add de_int (kallW 0 h_law_next hr (da_cons de_int da_nil))) (da_cons (de_add de_int (kallW 0 h_law_next hr (da_cons de_int da_nil))) da_nil)))))) (dg_tup (by rfl) (dgs_cons (gn 2 nd) (dgs_cons (gn 3 nd) (dgs_cons (gn 4 nd) (dgs_cons (gn 5 nd) (dgs_cons (gn 6 nd) dgs_nil)))))))
    (dss_cons (sset 7 nd (de_sub de_int (de_add (de_mul (de_mul (nv 2) (nv 4)) (nv 4)) (de_mul (de_mul (nv 3) (nv 5)) (nv 5)))))
    (dss_cons (ds_if (dt_eq (hu) (nv 7) de_int) (dss_one (ds_ret (de_tup (da_cons (nv 2) (da_cons (nv 3) (da_cons (de_sub de_int (nv 2)) da_nil)))))) dss_nil)
    (dss_cons (sset 8 nd (de_if (dt_eq (hu) (de_mod (de_int1 (by rfl) z_int (da_cons (nv 7) da_nil)) (de_mul (nv 6) (nv 6))) de_int) (de_mul (nv 6) (nv 6)) de_int))
    (dss_one (ds_ret (kallW 0 h_law_pick hr (da_cons (de_lst (da_cons (de_tup (da_cons (nv 2) (da_cons (nv 3) (da_cons (de_fdiv (nv 7) (nv 8)) da_nil)))) (da_cons (de_tup (da_cons (de_fdiv (nv 7) (nv 8)) (da_cons (nv 2) (da_cons (nv 3) da_nil)))) (da_cons (de_tup (da_cons (nv 2) (da_cons (de_fdiv (nv 7) (nv 8)) (da_cons (nv 3) da_nil)))) da_nil)))) da_nil)))))))))) (fun ds R _ h => ok_law_form_v2 ds R h)
abbrev s_law_common : Stmt := top 15
theorem sc_law_common : FnScope ["a", "b", "turn"] ["a", "b"] (defScope s_law_common) := ⟨rfl, rfl, rfl, by decide +kernel, rfl, by decide +kernel, by decide +kernel⟩
theorem fn_law_common {f : Addr} {fd : FuncData} (F : Fun K "_law_common" "_law_common" s_law_common f fd) (z_abs : mg "abs" = none) (z_range : mg "range" = none) (z_int : mg "int" = none) : FnOk P w K mg base CX0 1 f fd ["a", "b"] (liftSp K 2 sp_law_common_v2) :=
  def_ok (k := 0) (m := rd_law_common_v2) F sc_law_common (fun cdv A outer s H E c hr =>
    have hu := hr.units
    have nd := sc_law_common.nd
    (dss_cons (spar 0 1 nd (da_cons (de_abs (by rfl) z_abs (da_cons (nv 0) da_nil)) (da_cons (de_abs (by rfl) z_abs (da_cons (nv 1) da_nil)) da_nil)))
    (dss_cons (ds_for PassesOwn.never rfl (di_range1 (by rfl) z_range (da_cons de_int da_nil)) (gn 2 nd) (dss_cons (ds_if (dt_eq (hu) (nv 1) de_int) (dss_one ds_break) dss_nil)
    (dss_one (spar 0 1 nd (da_cons (nv 1) (da_cons (de_mod (de_int1 (by rfl) z_int (da_cons (nv 0) da_nil)) (nv 1)) da_nil))))))
    (dss_one (ds_ret (nv 0)))))) (fun ds R _ h => ok_law_common_v2 ds R h)
abbrev s_law_lone : Stmt := top 18
theorem sc_law_lone : FnScope ["xs", "d", "first", "n"] ["xs"] (defScope s_law_lone) := ⟨rfl, rfl, rfl, by decide +kernel, rfl, by decide +kernel, by decide +kernel⟩
theorem fn_law_lone {f : Addr} {fd : FuncData} (F : Fun K "_law_lone" "_law_lone" s_law_lone f fd) (z_tuple : mg "tuple" = none) (h_law_common : Has P w K mg base 1 "_law_common" ["a", "b"] (liftSp K 2 sp_law_common_v2)) : FnOk P w K mg base CX0 2 f fd ["xs"] (liftSp K 1 sp_law_lone) :=
  def_ok (k := 1) (m := rd_law_lone) F sc_law_lone (fun cdv A outer s H E c hr =>
    have hu := hr.units
    have nd := sc_law_lone.nd
    (dss_cons (sset 1 nd (kall h_law_common hr (da_cons (kall h_law_common hr (da_cons (de_ix (nv 0) de_int) (da_cons (de_ix (nv 0) de_int) da_nil))) (da_cons (de_ix (nv 0) de_int) da_nil))))
    (dss_cons (ds_if (dt_eq (hu) (nv 1) de_int) (dss_one (ds_ret (de_tup (da_cons de_int (da_cons de_int (da_cons de_int da_nil)))))) dss_nil)
    (dss_cons (sset 2 nd (de_ix (de_lc (own := [("n", 3)]) rfl nd (di_seq (nv 0)) (blkOk_by (by kernel_rfl)) (fun _ _ _ _ _ => (gn 3 nd)) (fun _ _ _ _ _ => (dts_one (dt_ne (hu) (nv 3) de_int))) (fun _ _ _ _ _ => (nv 3))) de_int))
    (dss_one (ds_ret (de_tuple (by rfl) z_tuple (da_cons (de_lc (own := [("n", 3)]) rfl nd (di_seq (nv 0)) (blkOk_by (by kernel_rfl)) (fun _ _ _ _ _ => (gn 3 nd)) (fun _ _ _ _ _ => dts_nil) (fun _ _ _ _ _ => (de_if (dt_gt (nv 2) de_int) (de_fdiv (nv 3) (nv 1)) (de_sub de_int (de_fdiv (nv 3) (nv 1)))))) da_nil)))))))) (fun ds R _ h => ok_law_lone ds R h)
abbrev s_law_zeros : Stmt := top 20
theorem sc_law_zeros : FnScope ["form", "found", "x", "y", "left", "z", "k"] ["form"] (defScope s_law_zeros) := ⟨rfl, rfl, rfl, by decide +kernel, rfl, by decide +kernel, by decide +kernel⟩
theorem fn_law_zeros {f : Addr} {fd : FuncData} (F : Fun K "_law_zeros" "_law_zeros" s_law_zeros f fd) (z_range : mg "range" = none) (z_int : mg "int" = none) (z_sorted : mg "sorted" = none) (z_set : mg "set" = none) (h_law_lone : Has P w K mg base 2 "_law_lone" ["xs"] (liftSp K 1 sp_law_lone)) : FnOk P w K mg base CX0 3 f fd ["form"] (liftSp K 1 sp_law_zeros) :=
  def_ok (k := 2) (m := rd_law_zeros) F sc_law_zeros (fun cdv A outer s H E c hr =>
    have hu := hr.units
    have nd := sc_law_zeros.nd
    (dss_cons (sset 1 nd (de_lst da_nil))
    (dss_cons (ds_for PassesOwn.never rfl (di_range1 (by rfl) z_range (da_cons de_int da_nil)) (gn 2 nd) (dss_one (ds_for PassesOwn.never rfl (di_range2 (by rfl) z_range (da_cons (de_neg de_int) (da_cons de_int da_nil))) (gn 3 nd) (dss_cons (sset 4 nd (de_sub (de_sub de_int (de_mul (de_mul (de_ix (nv 0) de_int) (nv 2)) (nv 2))) (de_mul (de_mul (de_ix (nv 0) de_int) (nv 3)) (nv 3))))
    (dss_one (ds_if (dw_and (dt_eq (hu) (de_mod (de_int1 (by rfl) z_int (da_cons (nv 4) da_nil)) (de_ix (nv 0) de_int)) de_int) (dw_and1 (dt_ge (de_fdiv (nv 4) (de_ix (nv 0) de_int)) de_int))).dt (dss_cons (ssetLc 5 (own := [("k", 6)]) nd (di_range1 (by rfl) z_range (da_cons de_int da_nil)) (blkOk_by (by kernel_rfl)) (fun _ _ _ _ _ => (gn 6 nd)) (fun _ _ _ _ _ => (dts_one (dt_eq (hu) (de_mul (nv 6) (nv 6)) (de_fdiv (nv 4) (de_ix (nv 0) de_int))))) (fun _ _ _ _ _ => (nv 6)))
    (dss_one (ds_if (dw_and (dt_ne (hu) (nv 5) (de_lst da_nil)) (dw_and1 (dt_ne (hu) (de_tup (da_cons (nv 2) (da_cons (nv 3) (da_cons (de_ix (nv 5) de_int) da_nil)))) (de_tup (da_cons de_int (da_cons de_int (da_cons de_int da_nil))))))).dt (dss_one (sset 1 nd (de_add (nv 1) (de_lst (da_cons (kall h_law_lone hr (da_cons (de_tup (da_cons (nv 2) (da_cons (nv 3) (da_cons (de_ix (nv 5) de_int) da_nil)))) da_nil)) (da_cons (kall h_law_lone hr (da_cons (de_tup (da_cons (nv 2) (da_cons (nv 3) (da_cons (de_sub de_int (de_ix (nv 5) de_int)) da_nil)))) da_nil)) da_nil)))))) dss_nil))) dss_nil))))))
    (dss_one (ds_ret (de_setSortT (by rfl) hu z_sorted z_set (da_cons (nv 1) da_nil))))))) (fun ds R _ h => ok_law_zeros ds R h)
abbrev s_law_drawn : Stmt := top 21
theorem sc_law_drawn : FnScope ["w", "turn", "form", "found"] ["w"] (defScope s_law_drawn) := ⟨rfl, rfl, rfl, by decide +kernel, rfl, by decide +kernel, by decide +kernel⟩
theorem fn_law_drawn {f : Addr} {fd : FuncData} (F : Fun K "_law_drawn" "_law_drawn" s_law_drawn f fd) (z_range : mg "range" = none) (h_law_form : Has P w K mg base 4 "_law_form" ["w"] (liftSpW K 0 sp_law_form_v2)) (h_law_zeros : Has P w K mg base 3 "_law_zeros" ["form"] (liftSp K 1 sp_law_zeros)) : FnOk P w K mg base CX0 5 f fd ["w"] (liftSpW K 0 sp_law_drawn_v1) :=
  def_okW (k := 4) (m := rd_law_drawn_v1) F sc_law_drawn (by decide) (fun cdv A outer s H E c hr =>
    have hu := hr.units
    have nd := sc_law_drawn.nd
    (dss_cons (ds_for PassesOwn.never rfl (di_range1 (by rfl) z_range (da_cons de_int da_nil)) (gn 1 nd) (dss_cons (sset 2 nd (kallW 0 h_law_form hr da_nil))
    (dss_cons (sset 3 nd (kall h_law_zeros hr (da_cons (nv 2) da_nil)))
    (dss_one (ds_if (dt_ne (hu) (nv 3) (de_lst da_nil)) (dss_one (ds_ret (de_tup (da_cons (nv 2) (da_cons (nv 3) da_nil))))) dss_nil)))))
    (dss_one (ds_ret (de_tup (da_cons (de_tup (da_cons de_int (da_cons de_int (da_cons (de_neg de_int) da_nil)))) (da_cons (kall h_law_zeros hr (da_cons (de_tup (da_cons de_int (da_cons de_int (da_cons (de_neg de_int) da_nil)))) da_nil)) da_nil))))))) (fun ds R _ h => ok_law_drawn_v1 ds R h)
abbrev s_directions : Stmt := top 5
theorem sc_directions : FnScope ["zero", "at", "k", "others", "other"] ["zero"] (defScope s_directions) := ⟨rfl, rfl, rfl, by decide +kernel, rfl, by decide +kernel, by decide +kernel⟩
theorem fn_directions {f : Addr} {fd : FuncData} (F : Fun K "directions" "directions" s_directions f fd) (z_range : mg "range" = none) (z_tuple : mg "tuple" = none) : FnOk P w K mg base CX0 1 f fd ["zero"] (liftSp K 1 sp_directions) :=
  def_ok (k := 0) (m := rd_directions) F sc_directions (fun cdv A outer s H E c hr =>
    have hu := hr.units
    have nd := sc_directions.nd
    (dss_cons (sset 1 nd (de_ix (de_lc (own := [("k", 2)]) rfl nd (di_range1 (by rfl) z_range (da_cons de_int da_nil)) (blkOk_by (by kernel_rfl)) (fun _ _ _ _ _ => (gn 2 nd)) (fun _ _ _ _ _ => (dts_one (dt_ne (hu) (de_ix (nv 0) (nv 2)) de_int))) (fun _ _ _ _ _ => (nv 2))) de_int))
    (dss_cons (ssetLc 3 (own := [("k", 2)]) nd (di_range1 (by rfl) z_range (da_cons de_int da_nil)) (blkOk_by (by kernel_rfl)) (fun _ _ _ _ _ => (gn 2 nd)) (fun _ _ _ _ _ => (dts_one (dt_ne (hu) (nv 2) (nv 1)))) (fun _ _ _ _ _ => (nv 2)))
    (dss_one (ds_ret (de_lc (own := [("other", 4)]) rfl nd (di_seq (nv 3)) (blkOk_by (by kernel_rfl)) (fun _ _ _ _ _ => (gn 4 nd)) (fun _ _ _ _ _ => dts_nil) (fun _ _ _ _ _ => (de_tuple (by rfl) z_tuple (da_cons (de_lc (own := [("k", 2)]) rfl nd (di_range1 (by rfl) z_range (da_cons de_int da_nil)) (blkOk_by (by kernel_rfl)) (fun _ _ _ _ _ => (gn 2 nd)) (fun _ _ _ _ _ => dts_nil) (fun _ _ _ _ _ => (de_if (dt_eq (hu) (nv 2) (nv 4)) de_int de_int))) da_nil))))))))) (fun ds R _ h => ok_directions ds R h)
abbrev s_worth : Stmt := top 3
theorem sc_worth : FnScope ["form", "xs", "a", "x"] ["form", "xs"] (defScope s_worth) := ⟨rfl, rfl, rfl, by decide +kernel, rfl, by decide +kernel, by decide +kernel⟩
theorem fn_worth {f : Addr} {fd : FuncData} (F : Fun K "worth" "worth" s_worth f fd) (z_zip : mg "zip" = none) (z_sum : mg "sum" = none) : FnOk P w K mg base CX0 1 f fd ["form", "xs"] (liftSp K 2 sp_worth) :=
  def_ok (k := 0) (m := rd_worth) F sc_worth (fun cdv A outer s H E c hr =>
    have hu := hr.units
    have nd := sc_worth.nd
    (dss_one (ds_ret (de_sum (by rfl) (by rfl) z_sum (da_cons (de_lc (own := [("a", 2), ("x", 3)]) rfl nd (di_zip2 z_zip (da_cons (nv 0) (da_cons (nv 1) da_nil))) (blkOk_by (by kernel_rfl)) (fun _ _ _ _ _ => (dg_tup (by rfl) (dgs_cons (gn 2 nd) (dgs_cons (gn 3 nd) dgs_nil)))) (fun _ _ _ _ _ => dts_nil) (fun _ _ _ _ _ => (de_mul (de_mul (nv 2) (nv 3)) (nv 3)))) da_nil))))) (fun ds R _ h => ok_worth ds R h)
abbrev s_between : Stmt := top 6
theorem sc_between : FnScope ["form", "one", "other", "a", "x", "y"] ["form", "one", "other"] (defScope s_between) := ⟨rfl, rfl, rfl, by decide +kernel, rfl, by decide +kernel, by decide +kernel⟩
theorem fn_between {f : Addr} {fd : FuncData} (F : Fun K "between" "between" s_between f fd) (z_zip : mg "zip" = none) (z_sum : mg "sum" = none) : FnOk P w K mg base CX0 1 f fd ["form", "one", "other"] (liftSp K 3 sp_between) :=
  def_ok (k := 0) (m := rd_between) F sc_between (fun cdv A outer s H E c hr =>
    have hu := hr.units
    have nd := sc_between.nd
    (dss_one (ds_ret (de_sum (by rfl) (by rfl) z_sum (da_cons (de_lc (own := [("a", 3), ("x", 4), ("y", 5)]) rfl nd (di_zip3 z_zip (da_cons (nv 0) (da_cons (nv 1) (da_cons (nv 2) da_nil)))) (blkOk_by (by kernel_rfl)) (fun _ _ _ _ _ => (dg_tup (by rfl) (dgs_cons (gn 3 nd) (dgs_cons (gn 4 nd) (dgs_cons (gn 5 nd) dgs_nil))))) (fun _ _ _ _ _ => dts_nil) (fun _ _ _ _ _ => (de_mul (de_mul (nv 3) (nv 4)) (nv 5)))) da_nil))))) (fun ds R _ h => ok_between ds R h)
abbrev s_curve_of : Stmt := top 7
theorem sc_curve_of : FnScope ["form", "zero", "one", "two", "f", "g", "h", "m", "n", "found", "k", "p", "q"] ["form", "zero"] (defScope s_curve_of) := ⟨rfl, rfl, rfl, by decide +kernel, rfl, by decide +kernel, by decide +kernel⟩
theorem fn_curve_of {f : Addr} {fd : FuncData} (F : Fun K "curve_of" "curve_of" s_curve_of f fd) (z_range : mg "range" = none) (z_tuple : mg "tuple" = none) (h_directions : Has P w K mg base 1 "directions" ["zero"] (liftSp K 1 sp_directions)) (h_worth : Has P w K mg base 1 "worth" ["form", "xs"] (liftSp K 2 sp_worth)) (h_between : Has P w K mg base 1 "between" ["form", "one", "other"] (liftSp K 3 sp_between)) : FnOk P w K mg base CX0 2 f fd ["form", "zero"] (liftSp K 2 sp_curve_of) :=
  def_ok (k := 1) (m := rd_curve_of) F sc_curve_of (fun cdv A outer s H E c hr =>
    have hu := hr.units
    have nd := sc_curve_of.nd
    (dss_cons (ds_asg (kall h_directions hr (da_cons (nv 1) da_nil)) (dg_unl (by rfl) (dgs_cons (gn 2 nd) (dgs_cons (gn 3 nd) dgs_nil))))
    (dss_cons (spar3 4 5 6 nd (da_cons (kall h_worth hr (da_cons (nv 0) (da_cons (nv 2) da_nil))) (da_cons (de_mul de_int (kall h_between hr (da_cons (nv 0) (da_cons (nv 2) (da_cons (nv 3) da_nil))))) (da_cons (kall h_worth hr (da_cons (nv 0) (da_cons (nv 3) da_nil))) da_nil))))
    (dss_cons (spar 7 8 nd (da_cons (de_mul de_int (kall h_between hr (da_cons (nv 0) (da_cons (nv 1) (da_cons (nv 2) da_nil))))) (da_cons (de_mul de_int (kall h_between hr (da_cons (nv 0) (da_cons (nv 1) (da_cons (nv 3) da_nil))))) da_nil)))
    (dss_cons (sown 9 nd da_nil)
    (dss_cons (ds_for PassesOwn.never rfl (di_range1 (by rfl) z_range (da_cons de_int da_nil)) (gn 10 nd) (dss_cons (sset 11 nd (de_sub (de_mul (nv 4) (de_ix (nv 1) (nv 10))) (de_mul (nv 7) (de_ix (nv 2) (nv 10)))))
    (dss_cons (sset 12 nd (de_sub (de_sub (de_mul (nv 5) (de_ix (nv 1) (nv 10))) (de_mul (nv 7) (de_ix (nv 3) (nv 10)))) (de_mul (nv 8) (de_ix (nv 2) (nv 10)))))
    (dss_one (sapp 9 (de_tup (da_cons (nv 11) (da_cons (nv 12) (da_cons (de_sub (de_mul (nv 6) (de_ix (nv 1) (nv 10))) (de_mul (nv 8) (de_ix (nv 3) (nv 10)))) da_nil)))))))))
    (dss_one (ds_frz 9 (ds_ret (de_tuple (by rfl) z_tuple (da_cons (nv 9) da_nil))))))))))) (fun ds R _ h => ok_curve_of ds R h)
abbrev s_common : Stmt := top 1
theorem sc_common : FnScope ["a", "b"] ["a", "b"] (defScope s_common) := ⟨rfl, rfl, rfl, by decide +kernel, rfl, by decide +kernel, by decide +kernel⟩
theorem fn_common {f : Addr} {fd : FuncData} (F : Fun K "common" "common" s_common f fd) (z_abs : mg "abs" = none) : FnOk P w K mg base CX0 1 f fd ["a", "b"] (liftSp K 2 sp_common) :=
  def_ok (k := 0) (m := rd_common) F sc_common (fun cdv A outer s H E c hr =>
    have hu := hr.units
    have nd := sc_common.nd
    (dss_cons (spar 0 1 nd (da_cons (de_abs (by rfl) z_abs (da_cons (nv 0) da_nil)) (da_cons (de_abs (by rfl) z_abs (da_cons (nv 1) da_nil)) da_nil)))
    (dss_cons (ds_while PassesOwn.never (dt_gt (nv 1) de_int) (dss_one (spar 0 1 nd (da_cons (nv 1) (da_cons (de_mod (nv 0) (nv 1)) da_nil)))))
    (dss_one (ds_ret (nv 0)))))) (fun ds R _ h => ok_common ds R h)
abbrev s_told_at : Stmt := top 8
theorem sc_told_at : FnScope ["form", "zero", "xs", "place", "k", "others", "s", "t", "one", "two", "by"] ["form", "zero", "xs"] (defScope s_told_at) := ⟨rfl, rfl, rfl, by decide +kernel, rfl, by decide +kernel, by decide +kernel⟩
theorem fn_told_at {f : Addr} {fd : FuncData} (F : Fun K "told_at" "told_at" s_told_at f fd) (z_range : mg "range" = none) (h_directions : Has P w K mg base 1 "directions" ["zero"] (liftSp K 1 sp_directions)) (h_between : Has P w K mg base 1 "between" ["form", "one", "other"] (liftSp K 3 sp_between)) (h_common : Has P w K mg base 1 "common" ["a", "b"] (liftSp K 2 sp_common)) : FnOk P w K mg base CX0 2 f fd ["form", "zero", "xs"] (liftSp K 3 sp_told_at) :=
  def_ok (k := 1) (m := rd_told_at) F sc_told_at (fun cdv A outer s H E c hr =>
    have hu := hr.units
    have nd := sc_told_at.nd
    (dss_cons (sset 3 nd (de_ix (de_lc (own := [("k", 4)]) rfl nd (di_range1 (by rfl) z_range (da_cons de_int da_nil)) (blkOk_by (by kernel_rfl)) (fun _ _ _ _ _ => (gn 4 nd)) (fun _ _ _ _ _ => (dts_one (dt_ne (hu) (de_ix (nv 1) (nv 4)) de_int))) (fun _ _ _ _ _ => (nv 4))) de_int))
    (dss_cons (ssetLc 5 (own := [("k", 4)]) nd (di_range1 (by rfl) z_range (da_cons de_int da_nil)) (blkOk_by (by kernel_rfl)) (fun _ _ _ _ _ => (gn 4 nd)) (fun _ _ _ _ _ => (dts_one (dt_ne (hu) (nv 4) (nv 3)))) (fun _ _ _ _ _ => (nv 4)))
    (dss_cons (ds_asg (de_lc (own := [("k", 4)]) rfl nd (di_seq (nv 5)) (blkOk_by (by kernel_rfl)) (fun _ _ _ _ _ => (gn 4 nd)) (fun _ _ _ _ _ => dts_nil) (fun _ _ _ _ _ => (de_sub (de_mul (de_ix (nv 2) (nv 4)) (de_ix (nv 1) (nv 3))) (de_mul (de_ix (nv 1) (nv 4)) (de_ix (nv 2) (nv 3)))))) (dg_unl (by rfl) (dgs_cons (gn 6 nd) (dgs_cons (gn 7 nd) dgs_nil))))
    (dss_cons (ds_if (dt_eq (hu) (de_tup (da_cons (nv 6) (da_cons (nv 7) da_nil))) (de_tup (da_cons de_int (da_cons de_int da_nil)))) (dss_cons (ds_asg (kall h_directions hr (da_cons (nv 1) da_nil)) (dg_unl (by rfl) (dgs_cons (gn 8 nd) (dgs_cons (gn 9 nd) dgs_nil))))
    (dss_one (spar 6 7 nd (da_cons (kall h_between hr (da_cons (nv 0) (da_cons (nv 1) (da_cons (nv 9) da_nil)))) (da_cons (de_neg (kall h_between hr (da_cons (nv 0) (da_cons (nv 1) (da_cons (nv 8) da_nil))))) da_nil))))) dss_nil)
    (dss_cons (sset 10 nd (kall h_common hr (da_cons (nv 6) (da_cons (nv 7) da_nil))))
    (dss_one (ds_ret (de_tup (da_cons (de_fdiv (nv 6) (nv 10)) (da_cons (de_fdiv (nv 7) (nv 10)) da_nil))))))))))) (fun ds R _ h => ok_told_at ds R h)
abbrev s_law_is_number : Stmt := top 13
theorem sc_law_is_number : FnScope ["thing"] ["thing"] (defScope s_law_is_number) := ⟨rfl, rfl, rfl, by decide +kernel, rfl, by decide +kernel, by decide +kernel⟩
theorem fn_law_is_number {f : Addr} {fd : FuncData} (F : Fun K "_law_is_number" "_law_is_number" s_law_is_number f fd) (z_isinstance : mg "isinstance" = none) (z_int : mg "int" = none) (z_bool : mg "bool" = none) : FnOk P w K mg base CX0 1 f fd ["thing"] (liftSp K 1 sp_law_is_number_v2) :=
  def_ok (k := 0) (m := rd_law_is_number_v2) F sc_law_is_number (fun cdv A outer s H E c hr =>
    have hu := hr.units
    have nd := sc_law_is_number.nd
    (dss_one (ds_ret (de_and (de_isi tells_int (by rfl) z_isinstance (by rfl) z_int boot_int (nv 0)) (de_one (de_not (de_isi tells_bool (by rfl) z_isinstance (by rfl) z_bool boot_bool (nv 0)))))))) (fun ds R _ h => ok_law_is_number_v2 ds R h)
abbrev s_law_is_numbers : Stmt := top 14
theorem sc_law_is_numbers : FnScope ["thing", "many", "n"] ["thing", "many"] (defScope s_law_is_numbers) := ⟨rfl, rfl, rfl, by decide +kernel, rfl, by decide +kernel, by decide +kernel⟩
theorem fn_law_is_numbers {f : Addr} {fd : FuncData} (F : Fun K "_law_is_numbers" "_law_is_numbers" s_law_is_numbers f fd) (z_isinstance : mg "isinstance" = none) (z_tuple : mg "tuple" = none) (z_len : mg "len" = none) (h_law_is_number : Has P w K mg base 1 "_law_is_number" ["thing"] (liftSp K 1 sp_law_is_number_v2)) : FnOk P w K mg base CX0 2 f fd ["thing", "many"] (liftSp K 2 sp_law_is_numbers) :=
  def_ok (k := 1) (m := rd_law_is_numbers) F sc_law_is_numbers (fun cdv A outer s H E c hr =>
    have hu := hr.units
    have nd := sc_law_is_numbers.nd
    (dss_one (ds_ret (de_and (de_isi tells_tuple (by rfl) z_isinstance (by rfl) z_tuple boot_tuple (nv 0)) (de_and (de_eq (hu) (de_len (by rfl) z_len (da_cons (nv 0) da_nil)) (nv 1)) (de_one (de_eq (hu) (de_lc (own := [("n", 2)]) rfl nd (di_seq (nv 0)) (blkOk_by (by kernel_rfl)) (fun _ _ _ _ _ => (gn 2 nd)) (fun _ _ _ _ _ => (dts_one (dt_not (dt_val (kall h_law_is_number hr (da_cons (nv 2) da_nil)))))) (fun _ _ _ _ _ => (nv 2))) (de_lst da_nil)))))))) (fun ds R _ h => ok_law_is_numbers ds R h)
abbrev s_law_at : Stmt := top 19
theorem sc_law_at : FnScope ["curve", "s", "t", "f", "g", "h"] ["curve", "s", "t"] (defScope s_law_at) := ⟨rfl, rfl, rfl, by decide +kernel, rfl, by decide +kernel, by decide +kernel⟩
theorem fn_law_at {f : Addr} {fd : FuncData} (F : Fun K "_law_at" "_law_at" s_law_at f fd) (h_law_lone : Has P w K mg base 2 "_law_lone" ["xs"] (liftSp K 1 sp_law_lone)) : FnOk P w K mg base CX0 3 f fd ["curve", "s", "t"] (liftSp K 3 sp_law_at) :=
  def_ok (k := 2) (m := rd_law_at) F sc_law_at (fun cdv A outer s H E c hr =>
    have hu := hr.units
    have nd := sc_law_at.nd
    (dss_one (ds_ret (kall h_law_lone hr (da_cons (de_lc (own := [("f", 3), ("g", 4), ("h", 5)]) rfl nd (di_seq (nv 0)) (blkOk_by (by kernel_rfl)) (fun _ _ _ _ _ => (dg_tup (by rfl) (dgs_cons (gn 3 nd) (dgs_cons (gn 4 nd) (dgs_cons (gn 5 nd) dgs_nil))))) (fun _ _ _ _ _ => dts_nil) (fun _ _ _ _ _ => (de_add (de_add (de_mul (de_mul (nv 3) (nv 1)) (nv 1)) (de_mul (de_mul (nv 4) (nv 1)) (nv 2))) (de_mul (de_mul (nv 5) (nv 2)) (nv 2))))) da_nil))))) (fun ds R _ h => ok_law_at ds R h)
abbrev s_law : Stmt := top 22
theorem sc_law : FnScope ["script", "w", "turn", "form", "found", "zero", "told", "k", "xs", "n", "pair"] ["script"] (defScope s_law) := ⟨rfl, rfl, rfl, by decide +kernel, rfl, by decide +kernel, by decide +kernel⟩
theorem fn_law {f : Addr} {fd : FuncData} (F : Fun K "law" "law" s_law f fd) (z_range : mg "range" = none) (z_len : mg "len" = none) (z_min : mg "min" = none) (z_tuple : mg "tuple" = none) (h_law_draws : Has P w K mg base 1 "_law_draws" ["script", "many"] (liftSpS K 1 sp_draws)) (h_law_drawn : Has P w K mg base 5 "_law_drawn" ["w"] (liftSpW K 0 sp_law_drawn_v1)) (h_law_pick : Has P w K mg base 2 "_law_pick" ["w", "rows"] (liftSpW K 1 sp_law_pick)) (h_curve_of : Has P w K mg base 2 "curve_of" ["form", "zero"] (liftSp K 2 sp_curve_of)) (h_told_at : Has P w K mg base 2 "told_at" ["form", "zero", "xs"] (liftSp K 3 sp_told_at)) (h_law_is_numbers : Has P w K mg base 2 "_law_is_numbers" ["thing", "many"] (liftSp K 2 sp_law_is_numbers)) (h_law_common : Has P w K mg base 1 "_law_common" ["a", "b"] (liftSp K 2 sp_law_common_v2)) (h_law_at : Has P w K mg base 3 "_law_at" ["curve", "s", "t"] (liftSp K 3 sp_law_at)) (h_law_lone : Has P w K mg base 2 "_law_lone" ["xs"] (liftSp K 1 sp_law_lone)) : FnOk P w K mg base CX0 6 f fd ["script"] (spLaw K) := by
  obtain ⟨f1, fd1, G1, m1, k1, b1⟩ := h_law_draws
  exact law_ok (k := 5) (many := 500) (m := rd_law_k25) F sc_law (by decide) (by decide) rfl (fun cdv A outer s H E hr => ps_set (i := 1) sc_law.nd rfl (by first | exact Or.inl rfl | exact Or.inr rfl) (pe_disp (pps_cons pe_str (pe_call G1 (hr.mono (by decide)) rfl m1 k1 b1 .nil pass0 (pa_cons (pv 0) (pa_cons pe_int pa_nil))) (pps_cons pe_str pe_int pps_nil)) rfl rfl (fun z => by cases z) (by decide)))
    (fun cdv A outer s H E c hr =>
    have hu := hr.units
    have nd := sc_law.nd
    (dss_cons (ds_for PassesOwn.never rfl (di_range1 (by rfl) z_range (da_cons de_int da_nil)) (gn 2 nd) (dss_cons (ds_asg (kallW 1 h_law_drawn hr da_nil) (dg_tup (by rfl) (dgs_cons (gn 3 nd) (dgs_cons (gn 4 nd) dgs_nil))))
    (dss_cons (sset 5 nd (kallW 1 h_law_pick hr (da_cons (nv 4) da_nil)))
    (dss_cons (sset 6 nd (kall h_curve_of hr (da_cons (nv 3) (da_cons (nv 5) da_nil))))
    (dss_one (ds_for PassesOwn.never rfl (di_range1 (by rfl) z_range (da_cons (de_min2 (by rfl) (by rfl) z_min (da_cons de_int (da_cons (de_len (by rfl) z_len (da_cons (nv 4) da_nil)) da_nil))) da_nil)) (gn 7 nd) (dss_cons (sset 8 nd (de_if (dt_lt (de_len (by rfl) z_len (da_cons (nv 4) da_nil)) de_int) (de_ix (nv 4) (nv 7)) (kallW 1 h_law_pick hr (da_cons (nv 4) da_nil))))
    (dss_cons (sset 8 nd (kallW 1 h_law_pick hr (da_cons (de_lst (da_cons (nv 8) (da_cons (de_tuple (by rfl) z_tuple (da_cons (de_lc (own := [("n", 9)]) rfl nd (di_seq (nv 8)) (blkOk_by (by kernel_rfl)) (fun _ _ _ _ _ => (gn 9 nd)) (fun _ _ _ _ _ => dts_nil) (fun _ _ _ _ _ => (de_sub de_int (nv 9)))) da_nil)) da_nil))) da_nil)))
    (dss_cons (sset 10 nd (kall h_told_at hr (da_cons (nv 3) (da_cons (nv 5) (da_cons (nv 8) da_nil)))))
    (dss_one (ds_if (dw_or (dt_not (dt_val (kall h_law_is_numbers hr (da_cons (nv 10) (da_cons de_int da_nil))))) (dw_or (dt_ne (hu) (kall h_law_common hr (da_cons (de_ix (nv 10) de_int) (da_cons (de_ix (nv 10) de_int) da_nil))) de_int) (dw_or1 (dt_ne (hu) (kall h_law_at hr (da_cons (nv 6) (da_cons (de_ix (nv 10) de_int) (da_cons (de_ix (nv 10) de_int) da_nil)))) (kall h_law_lone hr (da_cons (nv 8) da_nil)))))).dt (dss_one (ds_ret de_bl)) dss_nil)))))))))))
    (dss_one (ds_ret de_bl)))) ok_law_k25
end
theorem all_mk {l : PySem.W.OpenLaw} {w : World} {K : PySem.W.Frag} {h : Heap} {mg : Str → Option Value} {fa : Addr} (X : K.In h) (G : h.Ns mainGlobals mg) (hfa : mg "law" = some (.ref fa))
    {f0 : Addr} {od0 an0 : Option Addr} {sl0 : Array (Option Value)} {oc0 kV0 dc0 pm0 cd0 ct0 : Value} (a0 : PySem.W.nsIn K mainGlobals "_law_draws" = some (some (.ref f0))) (l0 : K.lookup f0 = some ⟨oc0, od0, .func (PySem.W.fnOf "_law_draws" "_law_draws" (defArgs s_law_draws) (defBody s_law_draws) (defScope s_law_draws) .none kV0 dc0 pm0 an0 cd0 ct0), sl0⟩) (c0 : PySem.W.codeIn K cd0 "_law_draws" = true) (k0 : PySem.W.keepIn K (.ref f0) = true)
    {f1 : Addr} {od1 an1 : Option Addr} {sl1 : Array (Option Value)} {oc1 kV1 dc1 pm1 cd1 ct1 : Value} (a1 : PySem.W.nsIn K mainGlobals "_law_next" = some (some (.ref f1))) (l1 : K.lookup f1 = some ⟨oc1, od1, .func (PySem.W.fnOf "_law_next" "_law_next" (defArgs s_law_next) (defBody s_law_next) (defScope s_law_next) .none kV1 dc1 pm1 an1 cd1 ct1), sl1⟩) (c1 : PySem.W.codeIn K cd1 "_law_next" = true) (k1 : PySem.W.keepIn K (.ref f1) = true)
    {f2 : Addr} {od2 an2 : Option Addr} {sl2 : Array (Option Value)} {oc2 kV2 dc2 pm2 cd2 ct2 : Value} (a2 : PySem.W.nsIn K mainGlobals "_law_pick" = some (some (.ref f2))) (l2 : K.lookup f2 = some ⟨oc2, od2, .func (PySem.W.fnOf "_law_pick" "_law_pick" (defArgs s_law_pick) (defBody s_law_pick) (defScope s_law_pick) .none kV2 dc2 pm2 an2 cd2 ct2), sl2⟩) (c2 : PySem.W.codeIn K cd2 "_law_pick" = true) (k2 : PySem.W.keepIn K (.ref f2) = true)
    {f3 : Addr} {od3 an3 : Option Addr} {sl3 : Array (Option Value)} {oc3 kV3 dc3 pm3 cd3 ct3 : Value} (a3 : PySem.W.nsIn K mainGlobals "_law_small" = some (some (.ref f3))) (l3 : K.lookup f3 = some ⟨oc3, od3, .func (PySem.W.fnOf "_law_small" "_law_small" (defArgs s_law_small) (defBody s_law_small) (defScope s_law_small) .none kV3 dc3 pm3 an3 cd3 ct3), sl3⟩) (c3 : PySem.W.codeIn K cd3 "_law_small" = true) (k3 : PySem.W.keepIn K (.ref f3) = true)
    {f4 : Addr} {od4 an4 : Option Addr} {sl4 : Array (Option Value)} {oc4 kV4 dc4 pm4 cd4 ct4 : Value} (a4 : PySem.W.nsIn K mainGlobals "_law_form" = some (some (.ref f4))) (l4 : K.lookup f4 = some ⟨oc4, od4, .func (PySem.W.fnOf "_law_form" "_law_form" (defArgs s_law_form) (defBody s_law_form) (defScope s_law_form) .none kV4 dc4 pm4 an4 cd4 ct4), sl4⟩) (c4 : PySem.W.codeIn K cd4 "_law_form" = true) (k4 : PySem.W.keepIn K (.ref f4) = true)
    {f5 : Addr} {od5 an5 : Option Addr} {sl5 : Array (Option Value)} {oc5 kV5 dc5 pm5 cd5 ct5 : Value} (a5 : PySem.W.nsIn K mainGlobals "_law_common" = some (some (.ref f5))) (l5 : K.lookup f5 = some ⟨oc5, od5, .func (PySem.W.fnOf "_law_common" "_law_common" (defArgs s_law_common) (defBody s_law_common) (defScope s_law_common) .none kV5 dc5 pm5 an5 cd5 ct5), sl5⟩) (c5 : PySem.W.codeIn K cd5 "_law_common" = true) (k5 : PySem.W.keepIn K (.ref f5) = true)
    {f6 : Addr} {od6 an6 : Option Addr} {sl6 : Array (Option Value)} {oc6 kV6 dc6 pm6 cd6 ct6 : Value} (a6 : PySem.W.nsIn K mainGlobals "_law_lone" = some (some (.ref f6))) (l6 : K.lookup f6 = some ⟨oc6, od6, .func (PySem.W.fnOf "_law_lone" "_law_lone" (defArgs s_law_lone) (defBody s_law_lone) (defScope s_law_lone) .none kV6 dc6 pm6 an6 cd6 ct6), sl6⟩) (c6 : PySem.W.codeIn K cd6 "_law_lone" = true) (k6 : PySem.W.keepIn K (.ref f6) = true)
    {f7 : Addr} {od7 an7 : Option Addr} {sl7 : Array (Option Value)} {oc7 kV7 dc7 pm7 cd7 ct7 : Value} (a7 : PySem.W.nsIn K mainGlobals "_law_zeros" = some (some (.ref f7))) (l7 : K.lookup f7 = some ⟨oc7, od7, .func (PySem.W.fnOf "_law_zeros" "_law_zeros" (defArgs s_law_zeros) (defBody s_law_zeros) (defScope s_law_zeros) .none kV7 dc7 pm7 an7 cd7 ct7), sl7⟩) (c7 : PySem.W.codeIn K cd7 "_law_zeros" = true) (k7 : PySem.W.keepIn K (.ref f7) = true)
    {f8 : Addr} {od8 an8 : Option Addr} {sl8 : Array (Option Value)} {oc8 kV8 dc8 pm8 cd8 ct8 : Value} (a8 : PySem.W.nsIn K mainGlobals "_law_drawn" = some (some (.ref f8))) (l8 : K.lookup f8 = some ⟨oc8, od8, .func (PySem.W.fnOf "_law_drawn" "_law_drawn" (defArgs s_law_drawn) (defBody s_law_drawn) (defScope s_law_drawn) .none kV8 dc8 pm8 an8 cd8 ct8), sl8⟩) (c8 : PySem.W.codeIn K cd8 "_law_drawn" = true) (k8 : PySem.W.keepIn K (.ref f8) = true)
    {f9 : Addr} {od9 an9 : Option Addr} {sl9 : Array (Option Value)} {oc9 kV9 dc9 pm9 cd9 ct9 : Value} (a9 : PySem.W.nsIn K mainGlobals "directions" = some (some (.ref f9))) (l9 : K.lookup f9 = some ⟨oc9, od9, .func (PySem.W.fnOf "directions" "directions" (defArgs s_directions) (defBody s_directions) (defScope s_directions) .none kV9 dc9 pm9 an9 cd9 ct9), sl9⟩) (c9 : PySem.W.codeIn K cd9 "directions" = true) (k9 : PySem.W.keepIn K (.ref f9) = true)
    {f10 : Addr} {od10 an10 : Option Addr} {sl10 : Array (Option Value)} {oc10 kV10 dc10 pm10 cd10 ct10 : Value} (a10 : PySem.W.nsIn K mainGlobals "worth" = some (some (.ref f10))) (l10 : K.lookup f10 = some ⟨oc10, od10, .func (PySem.W.fnOf "worth" "worth" (defArgs s_worth) (defBody s_worth) (defScope s_worth) .none kV10 dc10 pm10 an10 cd10 ct10), sl10⟩) (c10 : PySem.W.codeIn K cd10 "worth" = true) (k10 : PySem.W.keepIn K (.ref f10) = true)
    {f11 : Addr} {od11 an11 : Option Addr} {sl11 : Array (Option Value)} {oc11 kV11 dc11 pm11 cd11 ct11 : Value} (a11 : PySem.W.nsIn K mainGlobals "between" = some (some (.ref f11))) (l11 : K.lookup f11 = some ⟨oc11, od11, .func (PySem.W.fnOf "between" "between" (defArgs s_between) (defBody s_between) (defScope s_between) .none kV11 dc11 pm11 an11 cd11 ct11), sl11⟩) (c11 : PySem.W.codeIn K cd11 "between" = true) (k11 : PySem.W.keepIn K (.ref f11) = true)
    {f12 : Addr} {od12 an12 : Option Addr} {sl12 : Array (Option Value)} {oc12 kV12 dc12 pm12 cd12 ct12 : Value} (a12 : PySem.W.nsIn K mainGlobals "curve_of" = some (some (.ref f12))) (l12 : K.lookup f12 = some ⟨oc12, od12, .func (PySem.W.fnOf "curve_of" "curve_of" (defArgs s_curve_of) (defBody s_curve_of) (defScope s_curve_of) .none kV12 dc12 pm12 an12 cd12 ct12), sl12⟩) (c12 : PySem.W.codeIn K cd12 "curve_of" = true) (k12 : PySem.W.keepIn K (.ref f12) = true)
    {f13 : Addr} {od13 an13 : Option Addr} {sl13 : Array (Option Value)} {oc13 kV13 dc13 pm13 cd13 ct13 : Value} (a13 : PySem.W.nsIn K mainGlobals "common" = some (some (.ref f13))) (l13 : K.lookup f13 = some ⟨oc13, od13, .func (PySem.W.fnOf "common" "common" (defArgs s_common) (defBody s_common) (defScope s_common) .none kV13 dc13 pm13 an13 cd13 ct13), sl13⟩) (c13 : PySem.W.codeIn K cd13 "common" = true) (k13 : PySem.W.keepIn K (.ref f13) = true)
    {f14 : Addr} {od14 an14 : Option Addr} {sl14 : Array (Option Value)} {oc14 kV14 dc14 pm14 cd14 ct14 : Value} (a14 : PySem.W.nsIn K mainGlobals "told_at" = some (some (.ref f14))) (l14 : K.lookup f14 = some ⟨oc14, od14, .func (PySem.W.fnOf "told_at" "told_at" (defArgs s_told_at) (defBody s_told_at) (defScope s_told_at) .none kV14 dc14 pm14 an14 cd14 ct14), sl14⟩) (c14 : PySem.W.codeIn K cd14 "told_at" = true) (k14 : PySem.W.keepIn K (.ref f14) = true)
    {f15 : Addr} {od15 an15 : Option Addr} {sl15 : Array (Option Value)} {oc15 kV15 dc15 pm15 cd15 ct15 : Value} (a15 : PySem.W.nsIn K mainGlobals "_law_is_number" = some (some (.ref f15))) (l15 : K.lookup f15 = some ⟨oc15, od15, .func (PySem.W.fnOf "_law_is_number" "_law_is_number" (defArgs s_law_is_number) (defBody s_law_is_number) (defScope s_law_is_number) .none kV15 dc15 pm15 an15 cd15 ct15), sl15⟩) (c15 : PySem.W.codeIn K cd15 "_law_is_number" = true) (k15 : PySem.W.keepIn K (.ref f15) = true)
    {f16 : Addr} {od16 an16 : Option Addr} {sl16 : Array (Option Value)} {oc16 kV16 dc16 pm16 cd16 ct16 : Value} (a16 : PySem.W.nsIn K mainGlobals "_law_is_numbers" = some (some (.ref f16))) (l16 : K.lookup f16 = some ⟨oc16, od16, .func (PySem.W.fnOf "_law_is_numbers" "_law_is_numbers" (defArgs s_law_is_numbers) (defBody s_law_is_numbers) (defScope s_law_is_numbers) .none kV16 dc16 pm16 an16 cd16 ct16), sl16⟩) (c16 : PySem.W.codeIn K cd16 "_law_is_numbers" = true) (k16 : PySem.W.keepIn K (.ref f16) = true)
    {f17 : Addr} {od17 an17 : Option Addr} {sl17 : Array (Option Value)} {oc17 kV17 dc17 pm17 cd17 ct17 : Value} (a17 : PySem.W.nsIn K mainGlobals "_law_at" = some (some (.ref f17))) (l17 : K.lookup f17 = some ⟨oc17, od17, .func (PySem.W.fnOf "_law_at" "_law_at" (defArgs s_law_at) (defBody s_law_at) (defScope s_law_at) .none kV17 dc17 pm17 an17 cd17 ct17), sl17⟩) (c17 : PySem.W.codeIn K cd17 "_law_at" = true) (k17 : PySem.W.keepIn K (.ref f17) = true)
    {f18 : Addr} {od18 an18 : Option Addr} {sl18 : Array (Option Value)} {oc18 kV18 dc18 pm18 cd18 ct18 : Value} (a18 : PySem.W.nsIn K mainGlobals "law" = some (some (.ref f18))) (l18 : K.lookup f18 = some ⟨oc18, od18, .func (PySem.W.fnOf "law" "law" (defArgs s_law) (defBody s_law) (defScope s_law) .none kV18 dc18 pm18 an18 cd18 ct18), sl18⟩) (c18 : PySem.W.codeIn K cd18 "law" = true) (k18 : PySem.W.keepIn K (.ref f18) = true)
    (zlen : PySem.W.nsIn K mainGlobals "len" = some none)    (zrange : PySem.W.nsIn K mainGlobals "range" = some none)    (zint : PySem.W.nsIn K mainGlobals "int" = some none)    (zabs : PySem.W.nsIn K mainGlobals "abs" = some none)    (ztuple : PySem.W.nsIn K mainGlobals "tuple" = some none)    (zsorted : PySem.W.nsIn K mainGlobals "sorted" = some none)    (zset : PySem.W.nsIn K mainGlobals "set" = some none)    (zzip : PySem.W.nsIn K mainGlobals "zip" = some none)    (zsum : PySem.W.nsIn K mainGlobals "sum" = some none)    (zisinstance : PySem.W.nsIn K mainGlobals "isinstance" = some none)    (zbool : PySem.W.nsIn K mainGlobals "bool" = some none)    (zmin : PySem.W.nsIn K mainGlobals "min" = some none) :
    ∃ fd : FuncData, (∀ (s : Shared) (v : Value), BindsTo s fd ⟨[v], []⟩ [("script", v)]) ∧ ∀ base : Heap, K.In base → base.Ns mainGlobals mg → FnOk l.prog w K mg base CX0 6 fa fd ["script"] (spLaw K) := by
  have e := hfa.symm.trans (PySem.W.mg_of X G a18)
  cases e
  have z_len := PySem.W.mg_none_of X G zlen
  have z_range := PySem.W.mg_none_of X G zrange
  have z_int := PySem.W.mg_none_of X G zint
  have z_abs := PySem.W.mg_none_of X G zabs
  have z_tuple := PySem.W.mg_none_of X G ztuple
  have z_sorted := PySem.W.mg_none_of X G zsorted
  have z_set := PySem.W.mg_none_of X G zset
  have z_zip := PySem.W.mg_none_of X G zzip
  have z_sum := PySem.W.mg_none_of X G zsum
  have z_isinstance := PySem.W.mg_none_of X G zisinstance
  have z_bool := PySem.W.mg_none_of X G zbool
  have z_min := PySem.W.mg_none_of X G zmin
  refine ⟨PySem.W.fnOf "law" "law" (defArgs s_law) (defBody s_law) (defScope s_law) .none kV18 dc18 pm18 an18 cd18 ct18, fun s v => .of_eq rfl, fun base _ _ => ?_⟩
  have F0 := fun_mk (st := s_law_draws) l0 c0 k0
  have b0 := F0.binds (ps := ["script", "many"]) fun _ _ _ _ _ _ us hl => match us, hl with | [_, _], _ => rfl
  have h_law_draws : Has l.prog w K mg base 1 "_law_draws" ["script", "many"] (liftSpS K 1 sp_draws) := ⟨f0, _, fn_law_draws F0 z_len z_range z_int z_abs, PySem.W.mg_of X G a0, k0, b0⟩
  have F1 := fun_mk (st := s_law_next) l1 c1 k1
  have b1 := F1.binds (ps := ["w", "many"]) fun _ _ _ _ _ _ us hl => match us, hl with | [_, _], _ => rfl
  have h_law_next : Has l.prog w K mg base 1 "_law_next" ["w", "many"] (liftSpW K 1 sp_next) := ⟨f1, _, fn_law_next F1 z_len z_int, PySem.W.mg_of X G a1, k1, b1⟩
  have F2 := fun_mk (st := s_law_pick) l2 c2 k2
  have b2 := F2.binds (ps := ["w", "rows"]) fun _ _ _ _ _ _ us hl => match us, hl with | [_, _], _ => rfl
  have h_law_pick : Has l.prog w K mg base 2 "_law_pick" ["w", "rows"] (liftSpW K 1 sp_law_pick) := ⟨f2, _, fn_law_pick F2 z_len h_law_next, PySem.W.mg_of X G a2, k2, b2⟩
  have F3 := fun_mk (st := s_law_small) l3 c3 k3
  have b3 := F3.binds (ps := ["w"]) fun _ _ _ _ _ _ us hl => match us, hl with | [_], _ => rfl
  have h_law_small : Has l.prog w K mg base 3 "_law_small" ["w"] (liftSpW K 0 sp_law_small_v2) := ⟨f3, _, fn_law_small F3 h_law_pick h_law_next, PySem.W.mg_of X G a3, k3, b3⟩
  have F4 := fun_mk (st := s_law_form) l4 c4 k4
  have b4 := F4.binds (ps := ["w"]) fun _ _ _ _ _ _ us hl => match us, hl with | [_], _ => rfl
  have h_law_form : Has l.prog w K mg base 4 "_law_form" ["w"] (liftSpW K 0 sp_law_form_v2) := ⟨f4, _, fn_law_form F4 z_range z_tuple z_int h_law_next h_law_small h_law_pick, PySem.W.mg_of X G a4, k4, b4⟩
  have F5 := fun_mk (st := s_law_common) l5 c5 k5
  have b5 := F5.binds (ps := ["a", "b"]) fun _ _ _ _ _ _ us hl => match us, hl with | [_, _], _ => rfl
  have h_law_common : Has l.prog w K mg base 1 "_law_common" ["a", "b"] (liftSp K 2 sp_law_common_v2) := ⟨f5, _, fn_law_common F5 z_abs z_range z_int, PySem.W.mg_of X G a5, k5, b5⟩
  have F6 := fun_mk (st := s_law_lone) l6 c6 k6
  have b6 := F6.binds (ps := ["xs"]) fun _ _ _ _ _ _ us hl => match us, hl with | [_], _ => rfl
  have h_law_lone : Has l.prog w K mg base 2 "_law_lone" ["xs"] (liftSp K 1 sp_law_lone) := ⟨f6, _, fn_law_lone F6 z_tuple h_law_common, PySem.W.mg_of X G a6, k6, b6⟩
  have F7 := fun_mk (st := s_law_zeros) l7 c7 k7
  have b7 := F7.binds (ps := ["form"]) fun _ _ _ _ _ _ us hl => match us, hl with | [_], _ => rfl
  have h_law_zeros : Has l.prog w K mg base 3 "_law_zeros" ["form"] (liftSp K 1 sp_law_zeros) := ⟨f7, _, fn_law_zeros F7 z_range z_int z_sorted z_set h_law_lone, PySem.W.mg_of X G a7, k7, b7⟩
  have F8 := fun_mk (st := s_law_drawn) l8 c8 k8
  have b8 := F8.binds (ps := ["w"]) fun _ _ _ _ _ _ us hl => match us, hl with | [_], _ => rfl
  have h_law_drawn : Has l.prog w K mg base 5 "_law_drawn" ["w"] (liftSpW K 0 sp_law_drawn_v1) := ⟨f8, _, fn_law_drawn F8 z_range h_law_form h_law_zeros, PySem.W.mg_of X G a8, k8, b8⟩
  have F9 := fun_mk (st := s_directions) l9 c9 k9
  have b9 := F9.binds (ps := ["zero"]) fun _ _ _ _ _ _ us hl => match us, hl with | [_], _ => rfl
  have h_directions : Has l.prog w K mg base 1 "directions" ["zero"] (liftSp K 1 sp_directions) := ⟨f9, _, fn_directions F9 z_range z_tuple, PySem.W.mg_of X G a9, k9, b9⟩
  have F10 := fun_mk (st := s_worth) l10 c10 k10
  have b10 := F10.binds (ps := ["form", "xs"]) fun _ _ _ _ _ _ us hl => match us, hl with | [_, _], _ => rfl
  have h_worth : Has l.prog w K mg base 1 "worth" ["form", "xs"] (liftSp K 2 sp_worth) := ⟨f10, _, fn_worth F10 z_zip z_sum, PySem.W.mg_of X G a10, k10, b10⟩
  have F11 := fun_mk (st := s_between) l11 c11 k11
  have b11 := F11.binds (ps := ["form", "one", "other"]) fun _ _ _ _ _ _ us hl => match us, hl with | [_, _, _], _ => rfl
  have h_between : Has l.prog w K mg base 1 "between" ["form", "one", "other"] (liftSp K 3 sp_between) := ⟨f11, _, fn_between F11 z_zip z_sum, PySem.W.mg_of X G a11, k11, b11⟩
  have F12 := fun_mk (st := s_curve_of) l12 c12 k12
  have b12 := F12.binds (ps := ["form", "zero"]) fun _ _ _ _ _ _ us hl => match us, hl with | [_, _], _ => rfl
  have h_curve_of : Has l.prog w K mg base 2 "curve_of" ["form", "zero"] (liftSp K 2 sp_curve_of) := ⟨f12, _, fn_curve_of F12 z_range z_tuple h_directions h_worth h_between, PySem.W.mg_of X G a12, k12, b12⟩
  have F13 := fun_mk (st := s_common) l13 c13 k13
  have b13 := F13.binds (ps := ["a", "b"]) fun _ _ _ _ _ _ us hl => match us, hl with | [_, _], _ => rfl
  have h_common : Has l.prog w K mg base 1 "common" ["a", "b"] (liftSp K 2 sp_common) := ⟨f13, _, fn_common F13 z_abs, PySem.W.mg_of X G a13, k13, b13⟩
  have F14 := fun_mk (st := s_told_at) l14 c14 k14
  have b14 := F14.binds (ps := ["form", "zero", "xs"]) fun _ _ _ _ _ _ us hl => match us, hl with | [_, _, _], _ => rfl
  have h_told_at : Has l.prog w K mg base 2 "told_at" ["form", "zero", "xs"] (liftSp K 3 sp_told_at) := ⟨f14, _, fn_told_at F14 z_range h_directions h_between h_common, PySem.W.mg_of X G a14, k14, b14⟩
  have F15 := fun_mk (st := s_law_is_number) l15 c15 k15
  have b15 := F15.binds (ps := ["thing"]) fun _ _ _ _ _ _ us hl => match us, hl with | [_], _ => rfl
  have h_law_is_number : Has l.prog w K mg base 1 "_law_is_number" ["thing"] (liftSp K 1 sp_law_is_number_v2) := ⟨f15, _, fn_law_is_number F15 z_isinstance z_int z_bool, PySem.W.mg_of X G a15, k15, b15⟩
  have F16 := fun_mk (st := s_law_is_numbers) l16 c16 k16
  have b16 := F16.binds (ps := ["thing", "many"]) fun _ _ _ _ _ _ us hl => match us, hl with | [_, _], _ => rfl
  have h_law_is_numbers : Has l.prog w K mg base 2 "_law_is_numbers" ["thing", "many"] (liftSp K 2 sp_law_is_numbers) := ⟨f16, _, fn_law_is_numbers F16 z_isinstance z_tuple z_len h_law_is_number, PySem.W.mg_of X G a16, k16, b16⟩
  have F17 := fun_mk (st := s_law_at) l17 c17 k17
  have b17 := F17.binds (ps := ["curve", "s", "t"]) fun _ _ _ _ _ _ us hl => match us, hl with | [_, _, _], _ => rfl
  have h_law_at : Has l.prog w K mg base 3 "_law_at" ["curve", "s", "t"] (liftSp K 3 sp_law_at) := ⟨f17, _, fn_law_at F17 h_law_lone, PySem.W.mg_of X G a17, k17, b17⟩
  have F18 := fun_mk (st := s_law) l18 c18 k18
  exact fn_law F18 z_range z_len z_min z_tuple h_law_draws h_law_drawn h_law_pick h_curve_of h_told_at h_law_is_numbers h_law_common h_law_at h_law_lone
theorem walk {l : PySem.W.OpenLaw} {q : Program} {loose : List Str} {XP : (Str → Option Value) → Heap → Prop} {YP : World → Heap → Prop} {d : DefRec} {K : Params → PySem.W.Frag} (hn : l.most = some 63) (hdf : d.params.defaults = [])
    (hY : ∀ (w : World) (h : Heap), YP w h → (K w.params).In h)
    (F : ∀ (w : World) (mg : Str → Option Value) (fa : Addr) (h : Heap), (K w.params).In h → h.Ns mainGlobals mg → mg d.name = some (.ref fa) →
      ∃ fd : FuncData, (∀ (s : Shared) (u : Value), BindsTo s fd ⟨[u], []⟩ [("script", u)]) ∧ ∀ base : Heap, (K w.params).In base → base.Ns mainGlobals mg → FnOk l.prog w (K w.params) mg base CX0 6 fa fd ["script"] (spLaw (K w.params))) :
    PySem.W.WalkO q loose XP YP l.row.toRowW d [] (fun f vs => PySem.call f vs) :=
  L2.walk_of (n := 63) (k := 6) (x := "script") (CX := fun _ => CX0) (sp := fun w => spLaw (K w.params)) hn (by decide) hdf ⟨rfl, by decide, by decide⟩ hY F (fun _ _ a ns hl _ hS => ⟨a, ns, rfl, hS, hl, fun _ => rfl⟩) fun _ _ _ _ _ z => z
end Lay
open PySem PySem.W PyProof.Rows
set_option maxRecDepth 100000 in
set_option maxHeartbeats 0 in
theorem PySem.Challenge.cw_placewise_k25_zeros_told_by_curves_holds : PySem.Challenge.rw_placewise_k25_zeros_told_by_curves.Holds := by
  w_on; o_law; k_head; (case hw => w_witness2)
  k_fill
  refine Lay.walk (l := PySem.Challenge.rw_placewise_k25_zeros_told_by_curves) rfl rfl (fun w h Y => PySem.W.kIn_of Y) ?F
  case F =>
    intro w mg fa h KX G hmg
    refine' Lay.all_mk KX G hmg ?a0 ?l0 ?c0 ?k0 ?a1 ?l1 ?c1 ?k1 ?a2 ?l2 ?c2 ?k2 ?a3 ?l3 ?c3 ?k3 ?a4 ?l4 ?c4 ?k4 ?a5 ?l5 ?c5 ?k5 ?a6 ?l6 ?c6 ?k6 ?a7 ?l7 ?c7 ?k7 ?a8 ?l8 ?c8 ?k8 ?a9 ?l9 ?c9 ?k9 ?a10 ?l10 ?c10 ?k10 ?a11 ?l11 ?c11 ?k11 ?a12 ?l12 ?c12 ?k12 ?a13 ?l13 ?c13 ?k13 ?a14 ?l14 ?c14 ?k14 ?a15 ?l15 ?c15 ?k15 ?a16 ?l16 ?c16 ?k16 ?a17 ?l17 ?c17 ?k17 ?a18 ?l18 ?c18 ?k18 ?zlen ?zrange ?zint ?zabs ?ztuple ?zsorted ?zset ?zzip ?zsum ?zisinstance ?zbool ?zmin
    (case a0 => k_is); (case l0 => k_is); (case c0 => k_is); (case k0 => k_is)
    (case a1 => k_is); (case l1 => k_is); (case c1 => k_is); (case k1 => k_is)
    (case a2 => k_is); (case l2 => k_is); (case c2 => k_is); (case k2 => k_is)
    (case a3 => k_is); (case l3 => k_is); (case c3 => k_is); (case k3 => k_is)
    (case a4 => k_is); (case l4 => k_is); (case c4 => k_is); (case k4 => k_is)
    (case a5 => k_is); (case l5 => k_is); (case c5 => k_is); (case k5 => k_is)
    (case a6 => k_is); (case l6 => k_is); (case c6 => k_is); (case k6 => k_is)
    (case a7 => k_is); (case l7 => k_is); (case c7 => k_is); (case k7 => k_is)
    (case a8 => k_is); (case l8 => k_is); (case c8 => k_is); (case k8 => k_is)
    (case a9 => k_is); (case l9 => k_is); (case c9 => k_is); (case k9 => k_is)
    (case a10 => k_is); (case l10 => k_is); (case c10 => k_is); (case k10 => k_is)
    (case a11 => k_is); (case l11 => k_is); (case c11 => k_is); (case k11 => k_is)
    (case a12 => k_is); (case l12 => k_is); (case c12 => k_is); (case k12 => k_is)
    (case a13 => k_is); (case l13 => k_is); (case c13 => k_is); (case k13 => k_is)
    (case a14 => k_is); (case l14 => k_is); (case c14 => k_is); (case k14 => k_is)
    (case a15 => k_is); (case l15 => k_is); (case c15 => k_is); (case k15 => k_is)
    (case a16 => k_is); (case l16 => k_is); (case c16 => k_is); (case k16 => k_is)
    (case a17 => k_is); (case l17 => k_is); (case c17 => k_is); (case k17 => k_is)
    (case a18 => k_is); (case l18 => k_is); (case c18 => k_is); (case k18 => k_is)
    (case zlen => k_is)
    (case zrange => k_is)
    (case zint => k_is)
    (case zabs => k_is)
    (case ztuple => k_is)
    (case zsorted => k_is)
    (case zset => k_is)
    (case zzip => k_is)
    (case zsum => k_is)
    (case zisinstance => k_is)
    (case zbool => k_is)
    (case zmin => k_is)
