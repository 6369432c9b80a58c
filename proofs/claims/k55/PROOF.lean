import PyProof.Rows.All
import Wide.All
import OpenK.AllK
import Wide.FinOn
import HandS.ForMost
import HandS.Wide
import HandS.TupAny
import HandS.TupMul
import HandS.Style
import HandS.IsInst
import HandS.NoneIn
import HandS.SortInts
import HandS.Zip
import HandS.SortOrd
import HandS.SortRule
import HandS.TupSets
import HandS.SetFor
import HandS.Strs
import HandS.Dict
import HandS.FltList
import HandS.More
import HandS.List
import HandS.Iter
import KE.KDictDisplayH
import PySem.Challenge.RW_placewise_k55_joined_forms
set_option Elab.async false
set_option linter.all false
set_option maxRecDepth 100000
set_option maxHeartbeats 1000000
namespace Lay
open PySem PySem.Spec L2
open PyProof.Rows hiding St

abbrev D := PyData

mutual
/-- the value v stands for the data d, by the frozen heap F -/
inductive Rep (K : PySem.W.Frag) (F : Hp) : V → D → Prop
  | non : Rep K F .non .none
  | bl (b : Bool) : Rep K F (.bl b) (.bool b)
  | int (i : Int) : Rep K F (.int i) (.int i)
  | str (x : Str) : Rep K F (.str x) (.str x)
  | lst {a : Addr} {xs : List V} {ds : List D} : F a = some (.lst xs) → Reps K F xs ds → ds.length ≤ sizeLine → Rep K F (.ref a) (.list ds)
  | tup {a : Addr} {xs : List V} {ds : List D} : SqT K F a xs → Reps K F xs ds → ds.length ≤ sizeLine → Rep K F (.ref a) (.tuple ds)
inductive Reps (K : PySem.W.Frag) (F : Hp) : List V → List D → Prop
  | nil : Reps K F [] []
  | cons {v : V} {vs : List V} {d : D} {ds : List D} : Rep K F v d → Reps K F vs ds → Reps K F (v :: vs) (d :: ds)
end

section
variable {K : PySem.W.Frag} {F F' H : Hp}
theorem Rd.mono {a : Addr} {u : HO} (hF : ∀ a o, F a = some o → F' a = some o) (h : Rd F a u) : Rd F' a u := by
  rcases h with h | ⟨o, h⟩
  · exact .inl (hF _ _ h)
  · exact .inr ⟨o, hF _ _ h⟩
theorem sqL_mono {a : Addr} {xs : List V} (hF : ∀ a o, F a = some o → F' a = some o) (h : SqL K F a xs) : SqL K F' a xs := by
  rcases h with h | h
  · exact .inl (Rd.mono hF h)
  · exact .inr h
theorem sqT_mono {a : Addr} {xs : List V} (hF : ∀ a o, F a = some o → F' a = some o) (h : SqT K F a xs) : SqT K F' a xs := by
  rcases h with h | h
  · exact .inl (Rd.mono hF h)
  · exact .inr h
mutual
theorem Rep.mono (hF : ∀ a o, F a = some o → F' a = some o) : ∀ (d : D) (v : V), Rep K F v d → Rep K F' v d
  | .none, _, h => by cases h; exact .non
  | .bool b, _, h => by cases h; exact .bl b
  | .int i, _, h => by cases h; exact .int i
  | .str x, _, h => by cases h; exact .str x
  | .list ds, _, h => by
    cases h with
    | lst h1 h2 h3 => exact .lst (hF _ _ h1) (Reps.mono hF ds _ h2) h3
  | .tuple ds, _, h => by
    cases h with
    | tup h1 h2 h3 => exact .tup (sqT_mono hF h1) (Reps.mono hF ds _ h2) h3
  | .dict _, _, h => by cases h
theorem Reps.mono (hF : ∀ a o, F a = some o → F' a = some o) : ∀ (ds : List D) (vs : List V), Reps K F vs ds → Reps K F' vs ds
  | [], _, h => by cases h; exact .nil
  | d :: ds, _, h => by
    cases h with
    | cons h1 h2 => exact .cons (Rep.mono hF d _ h1) (Reps.mono hF ds _ h2)
end
mutual
theorem Rep.dp (hF : ∀ a o, F a = some o → F' a = some o) : ∀ (d : D) (v : V), Rep K F v d → Dp K F' v d
  | .none, _, h => by cases h; exact .non
  | .bool b, _, h => by cases h; exact .bl b
  | .int i, _, h => by cases h; exact .int i
  | .str x, _, h => by cases h; exact .str x
  | .list ds, _, h => by
    cases h with
    | lst h1 h2 h3 => exact .lst (SqL.of (hF _ _ h1)) (Reps.dp hF ds _ h2)
  | .tuple ds, _, h => by
    cases h with
    | tup h1 h2 h3 => exact .tup (sqT_mono hF h1) (Reps.dp hF ds _ h2)
  | .dict _, _, h => by cases h
theorem Reps.dp (hF : ∀ a o, F a = some o → F' a = some o) : ∀ (ds : List D) (vs : List V), Reps K F vs ds → DpAll K F' vs ds
  | [], _, h => by cases h; exact .nil
  | d :: ds, _, h => by
    cases h with
    | cons h1 h2 => exact .cons (Rep.dp hF d _ h1) (Reps.dp hF ds _ h2)
end
theorem Reps.len : ∀ {ds : List D} {vs : List V}, Reps K F vs ds → vs.length = ds.length
  | [], _, h => by cases h; rfl
  | d :: ds, _, h => by
    cases h with
    | cons h1 h2 => simp [Reps.len h2]
theorem Reps.get : ∀ {ds : List D} {vs : List V} {i : Nat} {d : D}, Reps K F vs ds → ds[i]? = some d → ∃ v, vs[i]? = some v ∧ Rep K F v d
  | [], _, i, d, h, e => by simp at e
  | _ :: _, _, 0, d, h, e => by
    cases h with
    | cons h1 h2 =>
      simp at e
      subst e
      exact ⟨_, rfl, h1⟩
  | _ :: _, _, i + 1, d, h, e => by
    cases h with
    | cons h1 h2 =>
      obtain ⟨v, e1, e2⟩ := Reps.get (i := i) (d := d) h2 (by simpa using e)
      exact ⟨v, by simpa using e1, e2⟩
theorem Reps.get' : ∀ {ds : List D} {vs : List V} {i : Nat} {v : V}, Reps K F vs ds → vs[i]? = some v → ∃ d, ds[i]? = some d ∧ Rep K F v d
  | [], _, i, v, h, e => by cases h; simp at e
  | _ :: _, _, 0, v, h, e => by
    cases h with
    | cons h1 h2 =>
      simp at e
      subst e
      exact ⟨_, rfl, h1⟩
  | _ :: _, _, i + 1, v, h, e => by
    cases h with
    | cons h1 h2 =>
      obtain ⟨d, e1, e2⟩ := Reps.get' (i := i) (v := v) h2 (by simpa using e)
      exact ⟨d, by simpa using e1, e2⟩
theorem Reps.append : ∀ {ds es : List D} {vs us : List V}, Reps K F vs ds → Reps K F us es → Reps K F (vs ++ us) (ds ++ es)
  | [], _, _, _, h, g => by cases h; exact g
  | _ :: _, _, _, _, h, g => by
    cases h with
    | cons h1 h2 => exact .cons h1 (Reps.append h2 g)
theorem Reps.take : ∀ {ds : List D} {vs : List V} (n : Nat), Reps K F vs ds → Reps K F (vs.take n) (ds.take n)
  | _, _, 0, _ => .nil
  | [], _, _ + 1, h => by cases h; exact .nil
  | _ :: _, _, n + 1, h => by
    cases h with
    | cons h1 h2 => exact .cons h1 (Reps.take n h2)
theorem Reps.drop : ∀ {ds : List D} {vs : List V} (n : Nat), Reps K F vs ds → Reps K F (vs.drop n) (ds.drop n)
  | _, _, 0, h => h
  | [], _, _ + 1, h => by cases h; exact .nil
  | _ :: _, _, n + 1, h => by
    cases h with
    | cons h1 h2 => exact Reps.drop n h2
theorem Reps.set {v : V} {d : D} (r : Rep K F v d) : ∀ {ds : List D} {vs : List V} (i : Nat), Reps K F vs ds → Reps K F (vs.set i v) (ds.set i d)
  | [], _, _, h => by cases h; exact .nil
  | _ :: _, _, 0, h => by
    cases h with
    | cons h1 h2 => exact .cons r h2
  | _ :: _, _, i + 1, h => by
    cases h with
    | cons h1 h2 => exact .cons h1 (Reps.set r i h2)
theorem Reps.reverse {ds : List D} {vs : List V} (h : Reps K F vs ds) : Reps K F vs.reverse ds.reverse := by
  induction ds generalizing vs with
  | nil => cases h; exact .nil
  | cons d ds ih =>
    cases h with
    | cons h1 h2 =>
      rw [List.reverse_cons, List.reverse_cons]
      exact (ih h2).append (.cons h1 .nil)
theorem Reps.ints : ∀ (ns : List Int), Reps K F (ns.map V.int) (ns.map PyData.int)
  | [] => .nil
  | n :: ns => .cons (.int n) (Reps.ints ns)
theorem Reps.ints_inv : ∀ {ns : List Int} {vs : List V}, Reps K F vs (ns.map PyData.int) → vs = ns.map V.int
  | [], _, h => by cases h; rfl
  | n :: ns, _, h => by
    cases h with
    | cons h1 h2 =>
      cases h1
      rw [Reps.ints_inv h2]; rfl
theorem Reps.bls_inv : ∀ {ns : List Bool} {vs : List V}, Reps K F vs (ns.map PyData.bool) → vs = ns.map V.bl
  | [], _, h => by cases h; rfl
  | n :: ns, _, h => by
    cases h with
    | cons h1 h2 =>
      cases h1
      rw [Reps.bls_inv h2]; rfl
theorem Reps.strs_inv : ∀ {ns : List Str} {vs : List V}, Reps K F vs (ns.map PyData.str) → vs = ns.map V.str
  | [], _, h => by cases h; rfl
  | n :: ns, _, h => by
    cases h with
    | cons h1 h2 =>
      cases h1
      rw [Reps.strs_inv h2]; rfl
end

/-- at p.1 stands the source: its draws (at p.2), the place -/
def WOk (H : Hp) (p : Addr × Addr) : Prop :=
  ∃ (n : Int) (ns : List Int), H p.1 = some (.dK [(.inr "draws", .ref p.2), (.inr "at", .int n)]) ∧ H p.2 = some (.lst (ns.map V.int)) ∧ 0 ≤ n ∧ ∀ r ∈ ns, 0 ≤ r ∧ r < 997
def isW (wo : Option (Addr × Addr)) (a : Addr) : Prop := ∃ d, wo = some (a, d)

structure Ext (wo : Option (Addr × Addr)) (F H F' H' : Hp) : Prop where
  ff : ∀ a o, F a = some o → F' a = some o
  fh : ∀ a o, F' a = some o → H' a = some o
  hh : ∀ a o, H a = some o → ¬ isW wo a → H' a = some o
  nw : ∀ a o, F' a = some o → F a = none → H a = none ∨ ∃ xs, H a = some (.tup xs)
  wk : ∀ p, wo = some p → WOk H' p
section
variable {K : PySem.W.Frag} {wo : Option (Addr × Addr)} {F F' F1 F2 H H' H1 H2 : Hp}
theorem WOk.ne {p : Addr × Addr} (w : WOk H p) : p.1 ≠ p.2 := by
  obtain ⟨n, ns, h1, h2, _⟩ := w
  exact ne_of h1 h2 (by intro z; cases z)
theorem WOk.keep {p : Addr × Addr} (w : WOk H p) (h1 : ∀ o, H p.1 = some o → H' p.1 = some o) (h2 : ∀ o, H p.2 = some o → H' p.2 = some o) : WOk H' p := by
  obtain ⟨n, ns, e1, e2, e3⟩ := w
  exact ⟨n, ns, h1 _ e1, h2 _ e2, e3⟩
theorem Ext.refl (h : ∀ a o, F a = some o → H a = some o) (w : ∀ p, wo = some p → WOk H p) : Ext wo F H F H :=
  ⟨fun _ _ e => e, h, fun _ _ e _ => e, fun _ _ e n => (by rw [n] at e; cases e), w⟩
theorem Ext.self (x : Ext wo F1 H1 F H) : Ext wo F H F H := Ext.refl x.fh x.wk
theorem Ext.back (x : Ext wo F H F' H') {a : Addr} (h : H' a = none) : H a = none := by
  cases e : H a with
  | none => rfl
  | some o =>
    by_cases q : isW wo a
    · obtain ⟨d, q⟩ := q
      obtain ⟨_, _, z, _⟩ := x.wk _ q
      rw [show H' a = _ from z] at h; cases h
    · rw [x.hh a o e q] at h; cases h
theorem Ext.trans (x : Ext wo F H F1 H1) (y : Ext wo F1 H1 F2 H2) : Ext wo F H F2 H2 where
  ff := fun a o e => y.ff a o (x.ff a o e)
  fh := y.fh
  hh := fun a o e q => y.hh a o (x.hh a o e q) q
  nw := fun a o e n => by
    cases q : F1 a with
    | none =>
      rcases y.nw a o e q with z | ⟨xs, z⟩
      · exact .inl (x.back z)
      · cases e1 : H a with
        | none => exact .inl rfl
        | some u =>
          by_cases w : isW wo a
          · obtain ⟨d, w⟩ := w
            obtain ⟨_, _, z2, _⟩ := x.wk _ w
            rw [show H1 a = _ from z2] at z
            cases z
          · rw [x.hh a u e1 w] at z
            cases z
            exact .inr ⟨_, rfl⟩
    | some u => exact x.nw a u q n
  wk := y.wk
theorem notW : ¬ isW none a := fun ⟨_, q⟩ => nomatch q
/-- a pure step within a step that may turn the source -/
theorem Ext.pure (x : Ext none F H F' H') (w : ∀ p, wo = some p → WOk H p) : Ext wo F H F' H' where
  ff := x.ff
  fh := x.fh
  hh := fun a o e _ => x.hh a o e notW
  nw := x.nw
  wk := fun p e => (w p e).keep (fun o q => x.hh _ o q notW) (fun o q => x.hh _ o q notW)
/-- a new object, frozen -/
theorem Ext.new {p : Addr} {o : HO} (h : ∀ a o, F a = some o → H a = some o) (w : ∀ p, wo = some p → WOk H p) (hp : H p = none) : Ext wo F H (upd F p o) (upd H p o) := by
  have nh : ∀ a u, H a = some u → a ≠ p := fun a u e => ne_of_none e hp
  refine ⟨fun a u e => ?_, fun a u e => ?_, fun a u e _ => by rw [upd_ne (nh a u e)]; exact e, fun a u e n => ?_, fun q e => (w q e).keep (fun u e => by rw [upd_ne (nh _ u e)]; exact e) fun u e => by rw [upd_ne (nh _ u e)]; exact e⟩
  · rw [upd_ne (nh a u (h a u e))]; exact e
  · by_cases q : a = p
    · subst q; rw [upd_same] at e ⊢; exact e
    · rw [upd_ne q] at e ⊢; exact h a u e
  · by_cases q : a = p
    · subst q; exact .inl hp
    · rw [upd_ne q] at e; rw [n] at e; cases e
/-- an object is made or turned that stood neither in H nor in F -/
theorem Ext.poke {p : Addr} {o : HO} (x : Ext wo F H F' H') (hp : H p = none) (fp : F' p = none) (w : ∀ q, wo = some q → p ≠ q.1 ∧ p ≠ q.2) : Ext wo F H F' (upd H' p o) where
  ff := x.ff
  fh := fun a u e => by rw [upd_ne (ne_of_none e fp)]; exact x.fh a u e
  hh := fun a u e n => by rw [upd_ne (ne_of_none e hp)]; exact x.hh a u e n
  nw := x.nw
  wk := fun q e => (x.wk q e).keep (fun u z => by rw [upd_ne (w q e).1.symm]; exact z) fun u z => by rw [upd_ne (w q e).2.symm]; exact z
theorem Ext.wne (x : Ext wo F H F' H') {p : Addr} (hp : H' p = none) : ∀ q, wo = some q → p ≠ q.1 ∧ p ≠ q.2 := fun q e => by
  obtain ⟨_, _, h1, h2, _⟩ := x.wk q e
  exact ⟨(ne_of_none h1 hp).symm, (ne_of_none h2 hp).symm⟩
end

inductive Sl where
  | un | val (d : D) | own (xs : List D) | dic (kvs : List (Key × D)) | wv | scr (ns : List Int)
abbrev En := List Sl
def Sl.isOwn : Sl → Bool
  | .own _ => true
  | .dic _ => true
  | _ => false
inductive KReps (K : PySem.W.Frag) (F : Hp) : List (Key × V) → List (Key × D) → Prop
  | nil : KReps K F [] []
  | cons {k : Key} {v : V} {vs : List (Key × V)} {d : D} {ds : List (Key × D)} : Rep K F v d → KReps K F vs ds → KReps K F ((k, v) :: vs) ((k, d) :: ds)
theorem KReps.mono {K : PySem.W.Frag} {F F' : Hp} (hF : ∀ a o, F a = some o → F' a = some o) : ∀ {vs : List (Key × V)} {ds : List (Key × D)}, KReps K F vs ds → KReps K F' vs ds
  | _, _, .nil => .nil
  | _, _, .cons r t => .cons (Rep.mono hF _ _ r) (KReps.mono hF t)
/-- the entry: the source, the frozen heap, the heap -/
structure Ct where
  wo : Option (Addr × Addr)
  F_0 : Hp
  H_0 : Hp
def SlR (K : PySem.W.Frag) (c : Ct) (F H : Hp) (ov : Option V) : Sl → Prop
  | .un => True
  | .val d => ∃ v, ov = some v ∧ Rep K F v d
  | .own ds => ∃ a vs, ov = some (.ref a) ∧ H a = some (.lst vs) ∧ Reps K F vs ds ∧ ds.length ≤ sizeLine
  | .dic kvs => ∃ a vs, ov = some (.ref a) ∧ H a = some (.dK vs) ∧ KReps K F vs kvs ∧ kvs.length ≤ sizeLine
  | .wv => ∃ a, ov = some (.ref a) ∧ isW c.wo a
  | .scr ns => ∃ a, ov = some (.ref a) ∧ SqL K F a (ns.map V.int)
def ownAt (σ : St) (en : En) (i : Nat) (a : Addr) : Prop := σ[i]? = some (some (.ref a)) ∧ ∃ s, en[i]? = some s ∧ s.isOwn = true
structure SR (K : PySem.W.Frag) (c : Ct) (F : Hp) (σ : St) (H : Hp) (en : En) : Prop where
  ext : Ext c.wo c.F_0 c.H_0 F H
  len : σ.length = en.length
  sl : ∀ (i : Nat) s, en[i]? = some s → ∃ ov, σ[i]? = some ov ∧ SlR K c F H ov s
  own : ∀ i a, ownAt σ en i a → F a = none ∧ (∀ p, c.wo = some p → a ≠ p.1 ∧ a ≠ p.2) ∧ c.H_0 a = none
  apart : ∀ i j a, ownAt σ en i a → ownAt σ en j a → i = j
  wn : ∀ p, c.wo = some p → F p.1 = none
section
variable {K : PySem.W.Frag} {c : Ct} {F F' H H' : Hp} {σ : St} {en : En}
theorem SR.fh (r : SR K c F σ H en) : ∀ a o, F a = some o → H a = some o := r.ext.fh
theorem SR.wk (r : SR K c F σ H en) : ∀ p, c.wo = some p → WOk H p := r.ext.wk
theorem SR.there (r : SR K c F σ H en) {i : Nat} {a : Addr} (h : ownAt σ en i a) : ∃ o, H a = some o ∧ ∀ ps, o ≠ .tup ps := by
  obtain ⟨e, s, es, so⟩ := h
  obtain ⟨ov, eo, q⟩ := r.sl i s es
  rw [e] at eo; cases eo
  cases s with
  | un => cases so
  | val d => cases so
  | wv => cases so
  | scr ns => cases so
  | own ds =>
    obtain ⟨b, vs, e1, e2, _⟩ := q
    cases e1
    exact ⟨_, e2, fun _ z => nomatch z⟩
  | dic ds =>
    obtain ⟨b, vs, e1, e2, _⟩ := q
    cases e1
    exact ⟨_, e2, fun _ z => nomatch z⟩
theorem SR.notW (r : SR K c F σ H en) {i : Nat} {a : Addr} (h : ownAt σ en i a) : ¬ isW c.wo a := fun ⟨d, q⟩ => ((r.own i a h).2.1 _ q).1 rfl
theorem SR.grow (r : SR K c F σ H en) (x : Ext c.wo F H F' H') : SR K c F' σ H' en where
  ext := r.ext.trans x
  len := r.len
  sl := fun i s e => by
    obtain ⟨ov, eo, q⟩ := r.sl i s e
    refine ⟨ov, eo, ?_⟩
    cases s with
    | un => trivial
    | val d =>
      obtain ⟨v, e1, e2⟩ := q
      exact ⟨v, e1, Rep.mono x.ff _ _ e2⟩
    | own ds =>
      obtain ⟨a, vs, e1, e2, e3, e4⟩ := q
      subst e1
      exact ⟨a, vs, rfl, x.hh _ _ e2 (r.notW ⟨eo, _, e, rfl⟩), Reps.mono x.ff _ _ e3, e4⟩
    | dic ds =>
      obtain ⟨a, vs, e1, e2, e3, e4⟩ := q
      subst e1
      exact ⟨a, vs, rfl, x.hh _ _ e2 (r.notW ⟨eo, _, e, rfl⟩), KReps.mono x.ff e3, e4⟩
    | wv => exact q
    | scr ns =>
      obtain ⟨a, e1, e2⟩ := q
      exact ⟨a, e1, sqL_mono x.ff e2⟩
  own := fun i a h => by
    obtain ⟨h1, h2, h3⟩ := r.own i a h
    refine ⟨?_, h2, h3⟩
    cases e : F' a with
    | none => rfl
    | some o =>
      obtain ⟨o', e', nt⟩ := r.there h
      rcases x.nw a o e h1 with z | ⟨xs, z⟩
      · rw [z] at e'; cases e'
      · rw [z] at e'; cases e'; exact absurd rfl (nt xs)
  apart := r.apart
  wn := fun p e => by
    cases q : F' p.1 with
    | none => rfl
    | some o =>
      obtain ⟨_, _, z, _⟩ := r.wk p e
      rcases x.nw _ o q (r.wn p e) with h1 | ⟨xs, h1⟩ <;> (rw [h1] at z; cases z)
theorem get_set {α : Type} {l : List α} {i j : Nat} {x s : α} (e : (l.set i x)[j]? = some s) : (i = j ∧ s = x ∧ i < l.length) ∨ (i ≠ j ∧ l[j]? = some s) := by
  by_cases q : i = j
  · subst q
    by_cases hl : i < l.length
    · rw [List.getElem?_set_self hl] at e
      cases e
      exact .inl ⟨rfl, rfl, hl⟩
    · rw [List.getElem?_eq_none (by simp; omega)] at e; cases e
  · rw [List.getElem?_set_ne q] at e
    exact .inr ⟨q, e⟩
theorem own_set {i j : Nat} {ov : Option V} {s : Sl} {a : Addr} (n : s.isOwn = false) (h : ownAt (σ.set i ov) (en.set i s) j a) : ownAt σ en j a := by
  obtain ⟨e, u, eu, ou⟩ := h
  rcases get_set eu with ⟨_, e1, _⟩ | ⟨q, e1⟩
  · rw [e1, n] at ou; cases ou
  · rw [List.getElem?_set_ne q] at e
    exact ⟨e, u, e1, ou⟩
/-- a slot is stored with what is not owned -/
theorem SR.setS (r : SR K c F σ H en) {i : Nat} {ov : Option V} {s : Sl} (n : s.isOwn = false) (h : SlR K c F H ov s) : SR K c F (σ.set i ov) H (en.set i s) where
  ext := r.ext
  len := by simp [r.len]
  sl := fun j u e => by
    rcases get_set e with ⟨q, e1, hl⟩ | ⟨q, e1⟩
    · subst q e1
      exact ⟨ov, by rw [List.getElem?_set_self (by rw [r.len]; exact hl)], h⟩
    · obtain ⟨w, e2, e3⟩ := r.sl j u e1
      exact ⟨w, by rw [List.getElem?_set_ne q]; exact e2, e3⟩
  own := fun j a h => r.own j a (own_set n h)
  apart := fun j k a h g => r.apart j k a (own_set n h) (own_set n g)
  wn := r.wn
theorem SR.set (r : SR K c F σ H en) {i : Nat} {v : V} {d : D} (h : Rep K F v d) : SR K c F (σ.set i (some v)) H (en.set i (.val d)) := r.setS rfl ⟨v, rfl, h⟩
/-- a slot is stored with a new list or dict of its own (tracked, not frozen) -/
theorem SR.setO (r : SR K c F σ H en) {i : Nat} {p : Addr} {s : Sl} {o : HO} (hp : H p = none) (h : SlR K c F (upd H p o) (some (.ref p)) s) : SR K c F (σ.set i (some (.ref p))) (upd H p o) (en.set i s) := by
  have fp : F p = none := by
    cases q : F p with
    | none => rfl
    | some u => rw [r.fh _ _ q] at hp; cases hp
  have x : Ext c.wo F H F (upd H p o) := r.ext.self.poke hp fp (r.ext.wne hp)
  have g := r.grow x
  have np : ∀ {j a}, ownAt σ en j a → a ≠ p := fun {j a} z => by
    obtain ⟨u, e, _⟩ := r.there z
    exact ne_of_none e hp
  have inv : ∀ {j a}, ownAt (σ.set i (some (.ref p))) (en.set i s) j a → (j = i ∧ a = p) ∨ (j ≠ i ∧ ownAt σ en j a) := fun {j a} z => by
    obtain ⟨e, u, eu, ou⟩ := z
    rcases get_set eu with ⟨q, e1, hl⟩ | ⟨q, e1⟩
    · subst q
      rw [List.getElem?_set_self (by rw [r.len]; exact hl)] at e
      cases e
      exact .inl ⟨rfl, rfl⟩
    · rw [List.getElem?_set_ne q] at e
      exact .inr ⟨fun z => q z.symm, e, u, e1, ou⟩
  refine ⟨g.ext, by simp [r.len], fun j u e => ?_, fun j a z => ?_, fun j k a z1 z2 => ?_, r.wn⟩
  · rcases get_set e with ⟨q, e1, hl⟩ | ⟨q, e1⟩
    · subst q e1
      exact ⟨_, by rw [List.getElem?_set_self (by rw [r.len]; exact hl)], h⟩
    · obtain ⟨w, e2, e3⟩ := g.sl j u e1
      exact ⟨w, by rw [List.getElem?_set_ne q]; exact e2, e3⟩
  · rcases inv z with ⟨_, e⟩ | ⟨_, z⟩
    · subst e
      exact ⟨fp, r.ext.wne hp, r.ext.back hp⟩
    · exact g.own j a z
  · rcases inv z1 with ⟨e1, e2⟩ | ⟨n1, y1⟩
    · rcases inv z2 with ⟨e3, e4⟩ | ⟨n2, y2⟩
      · rw [e1, e3]
      · exact absurd e2 (np y2)
    · rcases inv z2 with ⟨e3, e4⟩ | ⟨n2, y2⟩
      · exact absurd e4 (np y1)
      · exact r.apart j k a y1 y2
/-- an owned list or dict is turned in its place -/
theorem SR.turn (r : SR K c F σ H en) {i : Nat} {a : Addr} {s : Sl} {o : HO} (ha : ownAt σ en i a) (h : SlR K c F (upd H a o) (some (.ref a)) s) : SR K c F σ (upd H a o) (en.set i s) := by
  obtain ⟨o1, o2, o3⟩ := r.own i a ha
  have np : ∀ {j b}, j ≠ i → ownAt σ en j b → b ≠ a := fun {j b} n z q => by
    subst q
    exact n (r.apart _ _ _ z ha)
  have inv : ∀ {j b}, ownAt σ (en.set i s) j b → (j = i ∧ b = a) ∨ (j ≠ i ∧ ownAt σ en j b) := fun {j b} z => by
    obtain ⟨e, u, eu, ou⟩ := z
    rcases get_set eu with ⟨q, e1, hl⟩ | ⟨q, e1⟩
    · subst q
      rw [ha.1] at e
      cases e
      exact .inl ⟨rfl, rfl⟩
    · exact .inr ⟨fun z => q z.symm, e, u, e1, ou⟩
  refine ⟨r.ext.poke o3 o1 o2, by simp [r.len], fun j u e => ?_, fun j b z => ?_, fun j k b z1 z2 => ?_, r.wn⟩
  · rcases get_set e with ⟨q, e1, hl⟩ | ⟨q, e1⟩
    · subst q e1
      exact ⟨_, ha.1, h⟩
    · obtain ⟨w, e2, e3⟩ := r.sl j u e1
      refine ⟨w, e2, ?_⟩
      cases u with
      | un => trivial
      | val d => exact e3
      | own ds =>
        obtain ⟨b, vs, e1', e2', e3', e4'⟩ := e3
        subst e1'
        exact ⟨b, vs, rfl, by rw [upd_ne (np (fun z => q z.symm) ⟨e2, _, e1, rfl⟩)]; exact e2', e3', e4'⟩
      | dic ds =>
        obtain ⟨b, vs, e1', e2', e3', e4'⟩ := e3
        subst e1'
        exact ⟨b, vs, rfl, by rw [upd_ne (np (fun z => q z.symm) ⟨e2, _, e1, rfl⟩)]; exact e2', e3', e4'⟩
      | wv => exact e3
      | scr ns => exact e3
  · rcases inv z with ⟨_, e⟩ | ⟨_, z⟩
    · subst e; exact ⟨o1, o2, o3⟩
    · exact r.own j b z
  · rcases inv z1 with ⟨e1, e2⟩ | ⟨n1, y1⟩
    · rcases inv z2 with ⟨e3, e4⟩ | ⟨n2, y2⟩
      · rw [e1, e3]
      · exact absurd e2 (np n2 y2)
    · rcases inv z2 with ⟨e3, e4⟩ | ⟨n2, y2⟩
      · exact absurd e4 (np n1 y1)
      · exact r.apart j k b y1 y2
/-- an owned list is frozen -/
theorem SR.freeze (r : SR K c F σ H en) {i : Nat} {xs : List D} (e : en[i]? = some (.own xs)) : ∃ F', Ext c.wo c.F_0 c.H_0 F' H ∧ (∀ a o, F a = some o → F' a = some o) ∧ SR K c F' σ H (en.set i (.val (.list xs))) := by
  obtain ⟨ov, eo, a, vs, e1, e2, e3, e4⟩ := r.sl i _ e
  subst e1
  have ha : ownAt σ en i a := ⟨eo, _, e, rfl⟩
  obtain ⟨o1, o2, o3⟩ := r.own i a ha
  have ff : ∀ b o, F b = some o → upd F a (.lst vs) b = some o := fun b o q => by rw [upd_ne (ne_of_none q o1)]; exact q
  have x : Ext c.wo c.F_0 c.H_0 (upd F a (.lst vs)) H := by
    refine ⟨fun b o q => ff b o (r.ext.ff b o q), fun b o q => ?_, r.ext.hh, fun b o q n => ?_, r.wk⟩
    · by_cases z : b = a
      · subst z; rw [upd_same] at q; cases q; exact e2
      · rw [upd_ne z] at q; exact r.fh b o q
    · by_cases z : b = a
      · subst z; exact .inl o3
      · rw [upd_ne z] at q; exact r.ext.nw b o q n
  have nu : ∀ {j b}, ownAt σ (en.set i (.val (.list xs))) j b → j ≠ i ∧ ownAt σ en j b := fun {j b} z => by
    obtain ⟨e, u, eu, ou⟩ := z
    rcases get_set eu with ⟨q, e1, hl⟩ | ⟨q, e1⟩
    · rw [e1] at ou; cases ou
    · exact ⟨fun z => q z.symm, e, u, e1, ou⟩
  refine ⟨upd F a (.lst vs), x, ff, x, by simp [r.len], fun j u q => ?_, fun j b z => ?_, fun j k b z1 z2 => r.apart j k b (nu z1).2 (nu z2).2, fun p q => ?_⟩
  · rcases get_set q with ⟨q, e1, hl⟩ | ⟨q, e1⟩
    · subst q e1
      exact ⟨_, eo, _, rfl, .lst upd_same (Reps.mono ff _ _ e3) e4⟩
    · obtain ⟨w, g2, g3⟩ := r.sl j u e1
      refine ⟨w, g2, ?_⟩
      cases u with
      | un => trivial
      | val d =>
        obtain ⟨v, h1, h2⟩ := g3
        exact ⟨v, h1, Rep.mono ff _ _ h2⟩
      | own ds =>
        obtain ⟨b, us, h1, h2, h3, h4⟩ := g3
        exact ⟨b, us, h1, h2, Reps.mono ff _ _ h3, h4⟩
      | dic ds =>
        obtain ⟨b, us, h1, h2, h3, h4⟩ := g3
        exact ⟨b, us, h1, h2, KReps.mono ff h3, h4⟩
      | wv => exact g3
      | scr ns =>
        obtain ⟨b, h1, h2⟩ := g3
        exact ⟨b, h1, sqL_mono ff h2⟩
  · obtain ⟨n, z⟩ := nu z
    obtain ⟨p1, p2, p3⟩ := r.own j b z
    refine ⟨?_, p2, p3⟩
    rw [upd_ne (fun q => n (r.apart _ _ _ (by rw [← q]; exact z) ha))]
    exact p1
  · rw [upd_ne (o2 p q).1.symm]
    exact r.wn p q
end

abbrev DTE := En → (D → Prop) → Prop
abbrev DTT := En → (Bool → Prop) → Prop
abbrev DTA := En → (List D → Prop) → Prop
def liftE (K : PySem.W.Frag) (c : Ct) (m : DTE) : TE := fun σ H Q => ∃ F en R, SR K c F σ H en ∧ m en R ∧ ∀ d, R d → ∀ v F' H', Ext c.wo F H F' H' → Rep K F' v d → Q v H'
def liftT (K : PySem.W.Frag) (c : Ct) (m : DTT) : TT := fun σ H Q => ∃ F en R, SR K c F σ H en ∧ m en R ∧ ∀ b, R b → ∀ F' H', Ext c.wo F H F' H' → Q b H'
def liftA (K : PySem.W.Frag) (c : Ct) (n : Nat) (m : DTA) : TA := fun σ H Q => ∃ F en R, SR K c F σ H en ∧ m en R ∧ ∀ ds, R ds → ∀ vs F' H', Ext c.wo F H F' H' → Reps K F' vs ds → vs.length = n → Q vs H'
structure DE (X : Cx) (c : Ct) (e : Expr) (m : DTE) : Prop where
  run : PE X e (liftE X.K c m)
structure DT (X : Cx) (c : Ct) (e : Expr) (m : DTT) : Prop where
  run : PT X e (liftT X.K c m)
structure DA (X : Cx) (c : Ct) (es : List Expr) (m : DTA) : Prop where
  run : PA X es (liftA X.K c es.length m)
theorem PE.imp {X : Cx} {e : Expr} {t t' : TE} (h : PE X e t) (k : ∀ σ H Q, t' σ H Q → t σ H Q) : PE X e t' := ⟨fun pins s σ H Q I q => h.run pins s σ H Q I (k _ _ _ q)⟩
theorem PT.imp {X : Cx} {e : Expr} {t t' : TT} (h : PT X e t) (k : ∀ σ H Q, t' σ H Q → t σ H Q) : PT X e t' := ⟨fun pins s σ H Q I q => h.run pins s σ H Q I (k _ _ _ q)⟩
theorem PA.imp {X : Cx} {e : List Expr} {t t' : TA} (h : PA X e t) (k : ∀ σ H Q, t' σ H Q → t σ H Q) : PA X e t' := ⟨fun pos pins s σ H Q I q => h.run pos pins s σ H Q I (k _ _ _ q)⟩

section
variable {X : Cx} {c : Ct} {e a b : Expr} {es : List Expr} {m ma mb : DTE} {ml : DTA} {pos : Pos}
/-- the slot i -/
def gt : En → Nat → Sl
  | [], _ => .un
  | s :: _, 0 => s
  | _ :: r, i + 1 => gt r i
theorem gt_get : ∀ {en : En} {i : Nat} {s : Sl}, gt en i = s → s ≠ .un → en[i]? = some s
  | [], _, _, h, n => absurd h.symm n
  | _ :: _, 0, _, h, _ => by simpa [gt] using h
  | _ :: r, i + 1, _, h, n => by
    have h' : gt r i = _ := h
    simpa using gt_get h' n
/-- a step: what a part gives goes on -/
theorem lift_step {K : PySem.W.Frag} {F H : Hp} {en : En} {σ : St} {m : DTE} {R : D → Prop} {Q : VK} (r : SR K c F σ H en) (h : m en R) (k : ∀ d, R d → ∀ v F' H', Ext c.wo F H F' H' → Rep K F' v d → Q v H') : liftE K c m σ H Q := ⟨F, en, R, r, h, k⟩
def onVal (s : Sl) (K : D → Prop) : Prop := match s with | .val d => K d | _ => False
def onOwn (s : Sl) (K : List D → Prop) : Prop := match s with | .own ds => K ds | _ => False
def onDic (s : Sl) (K : List (Key × D) → Prop) : Prop := match s with | .dic ds => K ds | _ => False
def onScr (s : Sl) (K : List Int → Prop) : Prop := match s with | .scr ds => K ds | _ => False
def onWv (s : Sl) (K : Prop) : Prop := match s with | .wv => K | _ => False
def dVar (i : Nat) (en : En) (Q : D → Prop) : Prop := onVal (gt en i) Q
theorem de_var {i : Nat} {x : Str} (hN : X.N[i]? = some x) (hv : Vis X.env.scope x) (hd : (x == ("__debug__" : Str)) = false := by decide) (hcd : (x == ("__classdict__" : Str)) = false := by decide) : DE X c (.Name x pos) (dVar i) := by
  refine ⟨PE.imp (pe_var hN hv hd hcd) ?_⟩
  rintro σ H Q ⟨F, en, R, r, h, k⟩
  unfold dVar onVal at h
  split at h
  · rename_i d e
    obtain ⟨ov, e1, v, e2, e3⟩ := r.sl i _ (gt_get e (fun z => nomatch z))
    subst e2
    exact ⟨v, e1, k _ h v F H r.ext.self e3⟩
  · exact h.elim
def dC (d : D) (_x : En) (Q : D → Prop) : Prop := Q d
theorem de_int {i j} : DE X c (.Constant (.int i) j pos) (dC (.int i)) := ⟨PE.imp pe_int fun σ H Q ⟨F, en, R, r, h, k⟩ => k _ h _ F H r.ext.self (.int i)⟩
theorem de_bl {i j} : DE X c (.Constant (.bool i) j pos) (dC (.bool i)) := ⟨PE.imp pe_bl fun σ H Q ⟨F, en, R, r, h, k⟩ => k _ h _ F H r.ext.self (.bl i)⟩
theorem de_non {j} : DE X c (.Constant .none j pos) (dC .none) := ⟨PE.imp pe_non fun σ H Q ⟨F, en, R, r, h, k⟩ => k _ h _ F H r.ext.self .non⟩
theorem de_str {x j} : DE X c (.Constant (.str x) j pos) (dC (.str x)) := ⟨PE.imp pe_str fun σ H Q ⟨F, en, R, r, h, k⟩ => k _ h _ F H r.ext.self (.str x)⟩

abbrev D2 := D → D → (D → Prop) → Prop
/-- the rule r2 by values serves the data's rule d2 -/
def Serves (K : PySem.W.Frag) (c : Ct) (r2 : R2) (d2 : D2) : Prop :=
  ∀ (F H : Hp) (x y : V) (d e : D) (R : D → Prop) (Q : VK), Ext c.wo F H F H → Rep K F x d → Rep K F y e → d2 d e R → (∀ z, R z → ∀ v F' H', Ext c.wo F H F' H' → Rep K F' v z → Q v H') → r2 x y H Q
def dOp (d2 : D2) (ma mb : DTE) (en : En) (Q : D → Prop) : Prop := ma en fun x => mb en fun y => d2 x y Q
theorem lift_two {K : PySem.W.Frag} {r2 : R2} {d2 : D2} (sv : Serves K c r2 d2) {σ : St} {H : Hp} {Q : VK} (h : liftE K c (dOp d2 ma mb) σ H Q) : liftE K c ma σ H fun x H1 => liftE K c mb σ H1 fun y H2 => r2 x y H2 Q := by
  obtain ⟨F, en, R, r, h, k⟩ := h
  refine ⟨F, en, _, r, h, fun d hd v F1 H1 x1 rv => ?_⟩
  refine ⟨F1, en, _, r.grow x1, hd, fun e he u F2 H2 x2 ru => ?_⟩
  exact sv F2 H2 v u d e R Q x2.self (Rep.mono x2.ff _ _ rv) ru he fun z hz v' F' H' x3 rz => k z hz v' F' H' (x1.trans (x2.trans x3)) rz
end
end Lay
namespace Lay
open PySem PySem.Spec L2
open PyProof.Rows hiding St

/-- by a bool -/
def Cnd (b : Bool) (A B : Prop) : Prop := match b with | true => A | false => B
section
variable {X : Cx} {c : Ct} {e a b : Expr} {es : List Expr} {m ma mb : DTE} {ml : DTA} {mt mu : DTT} {pos : Pos}
theorem de_op {op : Operator} {r2 : R2} {d2 : D2} (ho : OpR X (binaryOp op) r2) (sv : Serves X.K c r2 d2) (ha : DE X c a ma) (hb : DE X c b mb) : DE X c (.BinOp a op b pos) (dOp d2 ma mb) :=
  ⟨PE.imp (pe_op ho ha.run hb.run) fun _ _ _ h => lift_two sv h⟩
theorem de_cmp {op : CmpOp} {r2 : R2} {d2 : D2} (ho : OpR X (compareOp op) r2) (sv : Serves X.K c r2 d2) (ha : DE X c a ma) (hb : DE X c b mb) (hm : behindInMarks op b = false) : DE X c (.Compare a [op] [b] pos) (dOp d2 ma mb) :=
  ⟨PE.imp (pe_cmpR ho ha.run hb.run hm) fun _ _ _ h => lift_two sv h⟩
/-- a value that is a bool, as a test -/
def asB (d : D) (Q : Bool → Prop) : Prop := match d with | .bool b => Q b | _ => False
def dT (m : DTE) (en : En) (Q : Bool → Prop) : Prop := m en fun d => asB d Q
theorem lift_test {K : PySem.W.Frag} {σ : St} {H : Hp} {Q : Bool → Hp → Prop} (h : liftT K c (dT m) σ H Q) : liftE K c m σ H fun x H' => ∃ k, x = .bl k ∧ Q k H' := by
  obtain ⟨F, en, R, r, h, k⟩ := h
  refine ⟨F, en, _, r, h, fun d hd v F' H' x rv => ?_⟩
  cases d with
  | bool b =>
    cases rv
    exact ⟨b, rfl, k b hd F' H' x⟩
  | _ => exact False.elim hd
theorem dt_cmp {op : CmpOp} {r2 : R2} {d2 : D2} (ho : OpR X (compareOp op) r2) (sv : Serves X.K c r2 d2) (ha : DE X c a ma) (hb : DE X c b mb) (hm : behindInMarks op b = false) : DT X c (.Compare a [op] [b] pos) (dT (dOp d2 ma mb)) := by
  refine ⟨PT.imp (pt_cmpR ho ha.run hb.run hm) fun σ H Q h => ?_⟩
  obtain ⟨F, en, R, r, h, k⟩ := lift_test h
  exact lift_two sv ⟨F, en, R, r, h, k⟩
theorem dt_val (h : DE X c e m) (he : ∀ whole, isTrue e X.env whole = (do let v ← whole; standAt e.pos; holding [v] (truthy v)) := by intro _; rfl) : DT X c e (dT m) :=
  ⟨PT.imp (pt_val h.run he) fun σ H Q h => lift_test h⟩

def addD : D2
  | .int i, .int j, Q => Q (.int (i + j))
  | .str x, .str y, Q => x.length + y.length ≤ sizeLine ∧ Q (.str (x ++ y))
  | .tuple xs, .tuple ys, Q => xs.length + ys.length ≤ sizeLine ∧ Q (.tuple (xs ++ ys))
  | .list xs, .list ys, Q => xs.length + ys.length ≤ sizeLine ∧ Q (.list (xs ++ ys))
  | _, _, _ => False
theorem Rep.tupI {K : PySem.W.Frag} {F : Hp} {v : V} {ds : List D} (h : Rep K F v (.tuple ds)) : ∃ a xs, v = .ref a ∧ SqT K F a xs ∧ Reps K F xs ds ∧ ds.length ≤ sizeLine := by
  cases h with
  | tup h1 h2 h3 => exact ⟨_, _, rfl, h1, h2, h3⟩
theorem Rep.lstI {K : PySem.W.Frag} {F : Hp} {v : V} {ds : List D} (h : Rep K F v (.list ds)) : ∃ a xs, v = .ref a ∧ F a = some (.lst xs) ∧ Reps K F xs ds ∧ ds.length ≤ sizeLine := by
  cases h with
  | lst h1 h2 h3 => exact ⟨_, _, rfl, h1, h2, h3⟩
theorem Reps.nil_iff {K : PySem.W.Frag} {F : Hp} {ds : List D} {vs : List V} (h : Reps K F vs ds) : vs = [] ↔ ds = [] := by
  cases h with
  | nil => simp
  | cons _ _ => simp
/-- a new frozen object that stands for data -/
theorem newTup {K : PySem.W.Frag} {F H : Hp} {p : Addr} {xs : List V} {ds : List D} (x : Ext c.wo F H F H) (hp : H p = none) (r : Reps K F xs ds) (z : ds.length ≤ sizeLine) :
    Ext c.wo F H (upd F p (.tup xs)) (upd H p (.tup xs)) ∧ Rep K (upd F p (.tup xs)) (.ref p) (.tuple ds) := by
  have y := Ext.new (o := .tup xs) x.fh x.wk hp
  exact ⟨y, .tup (SqT.of upd_same) (Reps.mono y.ff _ _ r) z⟩
theorem newLst {K : PySem.W.Frag} {F H : Hp} {p : Addr} {xs : List V} {ds : List D} (x : Ext c.wo F H F H) (hp : H p = none) (r : Reps K F xs ds) (z : ds.length ≤ sizeLine) :
    Ext c.wo F H (upd F p (.lst xs)) (upd H p (.lst xs)) ∧ Rep K (upd F p (.lst xs)) (.ref p) (.list ds) := by
  have y := Ext.new (o := .lst xs) x.fh x.wk hp
  exact ⟨y, .lst upd_same (Reps.mono y.ff _ _ r) z⟩
theorem sv_add {K : PySem.W.Frag} : Serves K c (fun x y H Q => (rI0 (fun i j => .int (i + j))) x y H Q ∨ (∃ i j, x = .str i ∧ y = .str j ∧ i.length + j.length ≤ sizeLine ∧ Q (.str (i ++ j)) H) ∨ rCatA K x y H Q ∨ rCat x y H Q) addD := by
  intro F H x y d e R Q ex rx ry h k
  cases d with
  | int i =>
    cases e with
    | int j => cases rx; cases ry; exact .inl ⟨i, j, rfl, rfl, k _ h _ F H ex (.int _)⟩
    | _ => exact False.elim h
  | str i =>
    cases e with
    | str j => cases rx; cases ry; exact .inr (.inl ⟨i, j, rfl, rfl, h.1, k _ h.2 _ F H ex (.str _)⟩)
    | _ => exact False.elim h
  | tuple ds =>
    cases e with
    | tuple es =>
      obtain ⟨p, xs, rfl, h1, h2, h3⟩ := rx.tupI
      obtain ⟨q, ys, rfl, g1, g2, g3⟩ := ry.tupI
      obtain ⟨hz, h⟩ := h
      have l1 := h2.len
      have l2 := g2.len
      refine .inr (.inr (.inl ⟨p, q, xs, ys, rfl, rfl, sqT_mono ex.fh h1, sqT_mono ex.fh g1, by omega, fun e0 => ?_, fun n0 e0 => ?_, fun n0 n1 t ht => ?_⟩))
      · have : ds = [] := h2.nil_iff.mp e0
        subst this
        exact k _ h _ F H ex ry
      · have : es = [] := g2.nil_iff.mp e0
        subst this
        rw [List.append_nil] at h
        exact k _ h _ F H ex rx
      · obtain ⟨y1, y2⟩ := newTup (ds := ds ++ es) ex ht (h2.append g2) (by rw [List.length_append]; exact hz)
        exact k _ h _ _ _ y1 y2
    | _ => exact False.elim h
  | list ds =>
    cases e with
    | list es =>
      obtain ⟨p, xs, rfl, h1, h2, h3⟩ := rx.lstI
      obtain ⟨q, ys, rfl, g1, g2, g3⟩ := ry.lstI
      obtain ⟨hz, h⟩ := h
      have l1 := h2.len
      have l2 := g2.len
      refine .inr (.inr (.inr ⟨p, q, xs, ys, rfl, rfl, ex.fh _ _ h1, ex.fh _ _ g1, by omega, fun t ht => ?_⟩))
      obtain ⟨y1, y2⟩ := newLst (ds := ds ++ es) ex ht (h2.append g2) (by rw [List.length_append]; exact hz)
      exact k _ h _ _ _ y1 y2
    | _ => exact False.elim h
  | _ => exact False.elim h
theorem de_add (ha : DE X c a ma) (hb : DE X c b mb) : DE X c (.BinOp a .Add b pos) (dOp addD ma mb) := de_op (op_add.or (op_add_str.or (op_catA.or op_cat))) sv_add ha hb

def subD : D2
  | .int i, .int j, Q => Q (.int (i - j))
  | _, _, _ => False
def mulD : D2
  | .int i, .int j, Q => CMulW i j ∧ Q (.int (i * j))
  | .tuple ds, .int k, Q => (ds ≠ [] ∧ 1 ≤ k ∧ k ≤ 1000 ∧ ds.length ≤ 1000) ∧ Q (.tuple (List.replicate k.toNat ds).flatten)
  | .list ds, .int k, Q => (-(2 ^ 63) ≤ k ∧ k < 2 ^ 63 ∧ ds.length * k.toNat ≤ sizeLine) ∧ Q (.list (List.replicate k.toNat ds).flatten)
  | _, _, _ => False
def CDivB (i j : Int) : Prop := j ≠ 0 ∧ j.natAbs.log2 < 9000
theorem op_fdivB : OpR X (binaryOp .FloorDiv) (rI CDivB fun i j => .int (i.fdiv j)) := opI fun _ _ _ _ _ _ _ hc q => floordiv_int hc.1 q (.inl (PyProof.noPylong_of_log2 hc.2))
def fdivD : D2
  | .int i, .int j, Q => CDivB i j ∧ Q (.int (i.fdiv j))
  | _, _, _ => False
def modD : D2
  | .int i, .int j, Q => j ≠ 0 ∧ Q (.int (i.fmod j))
  | _, _, _ => False
def powD : D2
  | .int i, .int j, Q => CPow i j ∧ Q (.int (i ^ j.toNat))
  | _, _, _ => False
def shlD : D2
  | .int i, .int j, Q => CPow i j ∧ Q (.int (i * 2 ^ j.toNat))
  | _, _, _ => False
def shrD : D2
  | .int i, .int j, Q => 0 ≤ j ∧ Q (.int (i / 2 ^ j.toNat))
  | _, _, _ => False
def andD : D2
  | .int i, .int j, Q => Q (.int (Builtin.bitAnd i j))
  | _, _, _ => False
def ltD : D2
  | .int i, .int j, Q => Q (.bool (decide (i < j)))
  | _, _, _ => False
def leD : D2
  | .int i, .int j, Q => Q (.bool (decide (i ≤ j)))
  | _, _, _ => False
def gtD : D2
  | .int i, .int j, Q => Q (.bool (decide (j < i)))
  | _, _, _ => False
def geD : D2
  | .int i, .int j, Q => Q (.bool (decide (j ≤ i)))
  | _, _, _ => False
theorem sv_i0 {K : PySem.W.Frag} {g : Int → Int → V} {g' : Int → Int → D} (hg : ∀ F i j, Rep K F (g i j) (g' i j)) {d2 : D2} (hd : ∀ i j R, d2 (.int i) (.int j) R → R (g' i j)) (hn : ∀ d e R, d2 d e R → ∃ i j, d = .int i ∧ e = .int j) : Serves K c (rI0 g) d2 := by
  intro F H x y d e R Q ex rx ry h k
  obtain ⟨i, j, rfl, rfl⟩ := hn d e R h
  cases rx
  cases ry
  exact ⟨i, j, rfl, rfl, k _ (hd i j R h) _ F H ex (hg F i j)⟩
theorem sv_i {K : PySem.W.Frag} {C : Int → Int → Prop} {g : Int → Int → V} {g' : Int → Int → D} (hg : ∀ F i j, Rep K F (g i j) (g' i j)) {d2 : D2} (hd : ∀ i j R, d2 (.int i) (.int j) R → C i j ∧ R (g' i j)) (hn : ∀ d e R, d2 d e R → ∃ i j, d = .int i ∧ e = .int j) : Serves K c (rI C g) d2 := by
  intro F H x y d e R Q ex rx ry h k
  obtain ⟨i, j, rfl, rfl⟩ := hn d e R h
  cases rx
  cases ry
  exact ⟨i, j, rfl, rfl, (hd i j R h).1, k _ (hd i j R h).2 _ F H ex (hg F i j)⟩
theorem two_ints {d2 : D2} (h1 : ∀ d e R, d2 d e R → ∃ i j, d = .int i ∧ e = .int j) {d e : D} {R : D → Prop} (h : d2 d e R) : ∃ i j, d = .int i ∧ e = .int j := h1 d e R h
theorem de_sub (ha : DE X c a ma) (hb : DE X c b mb) : DE X c (.BinOp a .Sub b pos) (dOp subD ma mb) :=
  de_op op_sub (sv_i0 (g' := fun i j => .int (i - j)) (fun _ _ _ => .int _) (fun _ _ _ h => h) (fun d e R h => by cases d <;> cases e <;> first | exact ⟨_, _, rfl, rfl⟩ | exact False.elim h)) ha hb
theorem de_fdiv (ha : DE X c a ma) (hb : DE X c b mb) : DE X c (.BinOp a .FloorDiv b pos) (dOp fdivD ma mb) :=
  de_op op_fdivB (sv_i (g' := fun i j => .int (i.fdiv j)) (fun _ _ _ => .int _) (fun _ _ _ h => h) (fun d e R h => by cases d <;> cases e <;> first | exact ⟨_, _, rfl, rfl⟩ | exact False.elim h)) ha hb
theorem de_mod (ha : DE X c a ma) (hb : DE X c b mb) : DE X c (.BinOp a .Mod b pos) (dOp modD ma mb) :=
  de_op op_modN (sv_i (g' := fun i j => .int (i.fmod j)) (fun _ _ _ => .int _) (fun _ _ _ h => h) (fun d e R h => by cases d <;> cases e <;> first | exact ⟨_, _, rfl, rfl⟩ | exact False.elim h)) ha hb
theorem de_pow (ha : DE X c a ma) (hb : DE X c b mb) : DE X c (.BinOp a .Pow b pos) (dOp powD ma mb) :=
  de_op op_pow (sv_i (g' := fun i j => .int (i ^ j.toNat)) (fun _ _ _ => .int _) (fun _ _ _ h => h) (fun d e R h => by cases d <;> cases e <;> first | exact ⟨_, _, rfl, rfl⟩ | exact False.elim h)) ha hb
theorem de_shl (ha : DE X c a ma) (hb : DE X c b mb) : DE X c (.BinOp a .LShift b pos) (dOp shlD ma mb) :=
  de_op op_shl (sv_i (g' := fun i j => .int (i * 2 ^ j.toNat)) (fun _ _ _ => .int _) (fun _ _ _ h => h) (fun d e R h => by cases d <;> cases e <;> first | exact ⟨_, _, rfl, rfl⟩ | exact False.elim h)) ha hb
theorem de_shr (ha : DE X c a ma) (hb : DE X c b mb) : DE X c (.BinOp a .RShift b pos) (dOp shrD ma mb) :=
  de_op op_shr (sv_i (g' := fun i j => .int (i / 2 ^ j.toNat)) (fun _ _ _ => .int _) (fun _ _ _ h => h) (fun d e R h => by cases d <;> cases e <;> first | exact ⟨_, _, rfl, rfl⟩ | exact False.elim h)) ha hb
theorem de_band (ha : DE X c a ma) (hb : DE X c b mb) : DE X c (.BinOp a .BitAnd b pos) (dOp andD ma mb) :=
  de_op op_and (sv_i0 (g' := fun i j => .int (Builtin.bitAnd i j)) (fun _ _ _ => .int _) (fun _ _ _ h => h) (fun d e R h => by cases d <;> cases e <;> first | exact ⟨_, _, rfl, rfl⟩ | exact False.elim h)) ha hb
theorem sv_lt {K : PySem.W.Frag} : Serves K c (rI0 fun i j => .bl (decide (i < j))) ltD := sv_i0 (g' := fun i j => .bool (decide (i < j))) (fun _ _ _ => .bl _) (fun _ _ _ h => h) (fun d e R h => by cases d <;> cases e <;> first | exact ⟨_, _, rfl, rfl⟩ | exact False.elim h)
theorem sv_le {K : PySem.W.Frag} : Serves K c (rI0 fun i j => .bl (decide (i ≤ j))) leD := sv_i0 (g' := fun i j => .bool (decide (i ≤ j))) (fun _ _ _ => .bl _) (fun _ _ _ h => h) (fun d e R h => by cases d <;> cases e <;> first | exact ⟨_, _, rfl, rfl⟩ | exact False.elim h)
theorem sv_gt {K : PySem.W.Frag} : Serves K c (rI0 fun i j => .bl (decide (j < i))) gtD := sv_i0 (g' := fun i j => .bool (decide (j < i))) (fun _ _ _ => .bl _) (fun _ _ _ h => h) (fun d e R h => by cases d <;> cases e <;> first | exact ⟨_, _, rfl, rfl⟩ | exact False.elim h)
theorem sv_ge {K : PySem.W.Frag} : Serves K c (rI0 fun i j => .bl (decide (j ≤ i))) geD := sv_i0 (g' := fun i j => .bool (decide (j ≤ i))) (fun _ _ _ => .bl _) (fun _ _ _ h => h) (fun d e R h => by cases d <;> cases e <;> first | exact ⟨_, _, rfl, rfl⟩ | exact False.elim h)
theorem de_lt (ha : DE X c a ma) (hb : DE X c b mb) : DE X c (.Compare a [.Lt] [b] pos) (dOp ltD ma mb) := de_cmp op_lt sv_lt ha hb (nomark _)
theorem de_le (ha : DE X c a ma) (hb : DE X c b mb) : DE X c (.Compare a [.LtE] [b] pos) (dOp leD ma mb) := de_cmp op_le sv_le ha hb (nomark _)
theorem de_gt (ha : DE X c a ma) (hb : DE X c b mb) : DE X c (.Compare a [.Gt] [b] pos) (dOp gtD ma mb) := de_cmp op_gt sv_gt ha hb (nomark _)
theorem de_ge (ha : DE X c a ma) (hb : DE X c b mb) : DE X c (.Compare a [.GtE] [b] pos) (dOp geD ma mb) := de_cmp op_ge sv_ge ha hb (nomark _)
theorem dt_lt (ha : DE X c a ma) (hb : DE X c b mb) : DT X c (.Compare a [.Lt] [b] pos) (dT (dOp ltD ma mb)) := dt_cmp op_lt sv_lt ha hb (nomark _)
theorem dt_le (ha : DE X c a ma) (hb : DE X c b mb) : DT X c (.Compare a [.LtE] [b] pos) (dT (dOp leD ma mb)) := dt_cmp op_le sv_le ha hb (nomark _)
theorem dt_gt (ha : DE X c a ma) (hb : DE X c b mb) : DT X c (.Compare a [.Gt] [b] pos) (dT (dOp gtD ma mb)) := dt_cmp op_gt sv_gt ha hb (nomark _)
theorem dt_ge (ha : DE X c a ma) (hb : DE X c b mb) : DT X c (.Compare a [.GtE] [b] pos) (dT (dOp geD ma mb)) := dt_cmp op_ge sv_ge ha hb (nomark _)
theorem Reps.replicate {K : PySem.W.Frag} {F : Hp} {ds : List D} {vs : List V} (h : Reps K F vs ds) : ∀ n : Nat, Reps K F (List.replicate n vs).flatten (List.replicate n ds).flatten
  | 0 => .nil
  | n + 1 => by
    rw [List.replicate_succ, List.replicate_succ, List.flatten_cons, List.flatten_cons]
    exact h.append (Reps.replicate h n)
theorem rep_flat_len {α : Type} (xs : List α) (n : Nat) : (List.replicate n xs).flatten.length = n * xs.length := by
  induction n with
  | zero => simp
  | succ n ih => rw [List.replicate_succ, List.flatten_cons, List.length_append, ih, Nat.succ_mul, Nat.add_comm]
section
open PyProof.Rows
set_option maxHeartbeats 4000000 in
theorem tuple_mulW1 (l : Addr) (items : Array Value) (n : Nat) (dd : Option Addr) (sl : Array (Option Value)) (x : Int) (u : Tok) (c0 : (decide (x < -(2 ^ 63)) || decide (x ≥ 2 ^ 63)) = false) (c1 : (items.isEmpty || x == 1) = true) :
    Meets (Builtin.«tuple.__mul__» ⟨[.ref l, .int x u], []⟩) (fun _ R s => s.heap.get? l = some { cls := .type "tuple", dict := dd, data := .seq items n, slots := sl } ∧ R (.ok (.ret (Value.ref l))) { s with heap := s.heap, toks := s.toks }) :=
  .of_wp fun prog w A R s h => by
    obtain ⟨hp, g, d, tk, os⟩ := s
    obtain ⟨hl, h⟩ := h
    have f1 := AutoSeq1.idx_int
    have f2 := AutoSeq1.sub_tuple_tuple
    wp_walk using wpAny_loadPart' hl
    repeat (first
      | (refine wpAny_ite_false (decide_eq_false (by rw [c0]; exact Bool.false_ne_true)) ?_; wp_walk using wpAny_loadPart' hl)
      | (refine wpAny_ite_true (decide_eq_true c1) ?_; wp_walk using wpAny_loadPart' hl))
    exact ⟨_, rfl, h⟩
def rRep1 (K : PySem.W.Frag) : R2 := fun x y H Q => ∃ l xs, x = .ref l ∧ y = .int 1 ∧ SqT K H l xs ∧ Q (.ref l) H
set_option maxHeartbeats 4000000 in
theorem op_rep1 {X : Cx} : OpR X (binaryOp .Mult) (rRep1 X.K) := by
  intro pins s σ H x y v u Q I rx ry h
  obtain ⟨l, xs, rfl, rfl, hT, q⟩ := h
  cases rx
  obtain ⟨t, rfl⟩ := ry
  obtain ⟨its, r, ⟨⟨cls, dd, data, sl⟩, ho, hc, n, hd⟩, hs⟩ := I.tuple hT
  simp only at hc hd
  subst hc hd
  refine wpAny_binaryOp_repeat_ref (T := "tuple") (U := "int") (by decide) ⟨_, ho, rfl⟩ (fun s' => typeIs_int s' 1 t) noFill_tuple_mul F.fills_int_mul F.slot_int_rmul repeat_tuple F.slot_int_index.lookup
    (call_meets F.slot_int_rmul (typeIs_int s 1 t) F.entry_int_rmul (F.args_int_rmul_2 _ _) (int_rmul_tuple 1 t l its.toArray n dd sl)
      ⟨ho, rfl, ⟨_, ho, rfl⟩, call_meets F.slot_tuple_mul ⟨_, ho, rfl⟩ F.entry_tuple_mul (F.args_tuple_mul_2 _ _) (tuple_mulW1 l its.toArray n dd sl 1 t (by decide) (by simp)) ⟨ho, ?_⟩⟩)
  exact ⟨.ref l, H, I, rfl, q⟩
end
theorem sv_mul {K : PySem.W.Frag} : Serves K c (fun x y H Q => rI CMulW (fun i j => .int (i * j)) x y H Q ∨ (rRepT K x y H Q ∨ (rRep1 K x y H Q ∨ rRep x y H Q))) mulD := by
  intro F H x y d e R Q ex rx ry h k
  cases d with
  | int i =>
    cases e with
    | int j => cases rx; cases ry; exact .inl ⟨i, j, rfl, rfl, h.1, k _ h.2 _ F H ex (.int _)⟩
    | _ => exact False.elim h
  | tuple ds =>
    cases e with
    | int n =>
      obtain ⟨p, xs, rfl, h1, h2, h3⟩ := rx.tupI
      cases ry
      obtain ⟨⟨n1, n2, n3, n4⟩, h⟩ := h
      by_cases e1 : n = 1
      · subst e1
        have e2 : (List.replicate (1 : Int).toNat ds).flatten = ds := by simp
        rw [e2] at h
        exact .inr (.inr (.inl ⟨p, xs, rfl, rfl, sqT_mono ex.fh h1, k _ h _ F H ex rx⟩))
      refine .inr (.inl ⟨p, n, xs, rfl, rfl, sqT_mono ex.fh h1, fun z => n1 (h2.nil_iff.mp z), by omega, n3, by rw [h2.len]; exact n4, fun t ht => ?_⟩)
      have hz : (List.replicate n.toNat ds).flatten.length ≤ sizeLine := by
        rw [rep_flat_len, sizeLine_eq]
        have q1 : n.toNat ≤ 1000 := by omega
        have := Nat.mul_le_mul q1 n4
        omega
      obtain ⟨y1, y2⟩ := newTup (ds := (List.replicate n.toNat ds).flatten) ex ht (h2.replicate n.toNat) hz
      exact k _ h _ _ _ y1 y2
    | _ => exact False.elim h
  | list ds =>
    cases e with
    | int n =>
      obtain ⟨p, xs, rfl, h1, h2, h3⟩ := rx.lstI
      cases ry
      obtain ⟨⟨n1, n2, n3⟩, h⟩ := h
      refine .inr (.inr (.inr ⟨p, n, xs, rfl, rfl, ex.fh _ _ h1, n1, n2, by rw [h2.len]; exact n3, fun t ht => ?_⟩))
      have hz : (List.replicate n.toNat ds).flatten.length ≤ sizeLine := by
        rw [rep_flat_len, Nat.mul_comm]
        exact n3
      obtain ⟨y1, y2⟩ := newLst (ds := (List.replicate n.toNat ds).flatten) ex ht (h2.replicate n.toNat) hz
      exact k _ h _ _ _ y1 y2
    | _ => exact False.elim h
  | _ => exact False.elim h
theorem de_mul (ha : DE X c a ma) (hb : DE X c b mb) : DE X c (.BinOp a .Mult b pos) (dOp mulD ma mb) := de_op (op_mulW.or (op_repT.or (op_rep1.or op_rep))) sv_mul ha hb

def eqD : D2 := fun d e Q => (SeqAt.shaped d = true ∧ SeqAt.shaped e = true) ∧ Q (.bool (PyData.eqv d e))
def neD : D2 := fun d e Q => (SeqAt.shaped d = true ∧ SeqAt.shaped e = true) ∧ Q (.bool (!PyData.eqv d e))
theorem sv_eq {K : PySem.W.Frag} : Serves K c (rEqD K) eqD := fun F H x y d e R Q ex rx ry h k => ⟨d, e, Rep.dp ex.fh d x rx, Rep.dp ex.fh e y ry, h.1.1, h.1.2, k _ h.2 _ F H ex (.bl _)⟩
theorem sv_ne {K : PySem.W.Frag} : Serves K c (rNeD K) neD := fun F H x y d e R Q ex rx ry h k => ⟨d, e, Rep.dp ex.fh d x rx, Rep.dp ex.fh e y ry, h.1.1, h.1.2, k _ h.2 _ F H ex (.bl _)⟩
theorem de_eq (hu : X.A.units + 64 < cLine) (ha : DE X c a ma) (hb : DE X c b mb) : DE X c (.Compare a [.Eq] [b] pos) (dOp eqD ma mb) := de_cmp (op_eqD hu) sv_eq ha hb (nomark _)
theorem de_ne (hu : X.A.units + 64 < cLine) (ha : DE X c a ma) (hb : DE X c b mb) : DE X c (.Compare a [.NotEq] [b] pos) (dOp neD ma mb) := de_cmp (op_neD hu) sv_ne ha hb (nomark _)
theorem dt_eq (hu : X.A.units + 64 < cLine) (ha : DE X c a ma) (hb : DE X c b mb) : DT X c (.Compare a [.Eq] [b] pos) (dT (dOp eqD ma mb)) := dt_cmp (op_eqD hu) sv_eq ha hb (nomark _)
theorem dt_ne (hu : X.A.units + 64 < cLine) (ha : DE X c a ma) (hb : DE X c b mb) : DT X c (.Compare a [.NotEq] [b] pos) (dT (dOp neD ma mb)) := dt_cmp (op_neD hu) sv_ne ha hb (nomark _)
def isNon : D → Bool
  | .none => true
  | _ => false
theorem Rep.non_iff {K : PySem.W.Frag} {F : Hp} {v : V} {d : D} (h : Rep K F v d) : decide (v = .non) = isNon d := by cases h <;> simp [isNon]
def isD : D2 := fun d e Q => match e with | .none => Q (.bool (isNon d)) | _ => False
def isNotD : D2 := fun d e Q => match e with | .none => Q (.bool (!isNon d)) | _ => False
theorem sv_is {K : PySem.W.Frag} : Serves K c (fun x y H Q => y = .non ∧ Q (.bl (decide (x = .non))) H) isD := fun F H x y d e R Q ex rx ry h k => by
  cases e with
  | none => cases ry; exact ⟨rfl, by rw [rx.non_iff]; exact k _ h _ F H ex (.bl _)⟩
  | _ => exact False.elim h
theorem sv_isNot {K : PySem.W.Frag} : Serves K c (fun x y H Q => y = .non ∧ Q (.bl (!decide (x = .non))) H) isNotD := fun F H x y d e R Q ex rx ry h k => by
  cases e with
  | none => cases ry; exact ⟨rfl, by rw [rx.non_iff]; exact k _ h _ F H ex (.bl _)⟩
  | _ => exact False.elim h
theorem de_is (ha : DE X c a ma) (hb : DE X c b mb) : DE X c (.Compare a [.Is] [b] pos) (dOp isD ma mb) := de_cmp op_isN sv_is ha hb (nomark _)
theorem dt_is (ha : DE X c a ma) (hb : DE X c b mb) : DT X c (.Compare a [.Is] [b] pos) (dT (dOp isD ma mb)) := dt_cmp op_isN sv_is ha hb (nomark _)
theorem de_isNot (ha : DE X c a ma) (hb : DE X c b mb) : DE X c (.Compare a [.IsNot] [b] pos) (dOp isNotD ma mb) := de_cmp op_notN sv_isNot ha hb (nomark _)
theorem dt_isNot (ha : DE X c a ma) (hb : DE X c b mb) : DT X c (.Compare a [.IsNot] [b] pos) (dT (dOp isNotD ma mb)) := dt_cmp op_notN sv_isNot ha hb (nomark _)
def flatD : D → Bool
  | .none => true
  | .bool _ => true
  | .int _ => true
  | .str _ => true
  | _ => false
theorem Rep.flat {K : PySem.W.Frag} {F : Hp} {v : V} {d : D} (h : Rep K F v d) : flatV v = flatD d := by cases h <;> rfl
theorem Rep.eqV {K : PySem.W.Frag} {F : Hp} {v u : V} {d e : D} (h : Rep K F v d) (g : Rep K F u e) (f1 : flatD d = true) (f2 : flatD e = true) : L2.eqV v u = PyData.eqv d e := by
  cases h <;> cases g <;> first | rfl | (cases f1) | (cases f2)
theorem Reps.allFlat {K : PySem.W.Frag} {F : Hp} : ∀ {ds : List D} {vs : List V}, Reps K F vs ds → vs.all flatV = ds.all flatD
  | [], _, h => by cases h; rfl
  | d :: ds, _, h => by
    cases h with
    | cons h1 h2 => simp [h1.flat, Reps.allFlat h2]
def memD (d : D) (ds : List D) : Bool := ds.any fun y => PyData.eqv y d
theorem Reps.inV {K : PySem.W.Frag} {F : Hp} {u : V} {d : D} (g : Rep K F u d) (f : flatD d = true) : ∀ {ds : List D} {vs : List V}, Reps K F vs ds → ds.all flatD = true → L2.inV u vs = memD d ds
  | [], _, h, _ => by cases h; rfl
  | e :: ds, _, h, hf => by
    cases h with
    | cons h1 h2 =>
      rw [List.all_cons, Bool.and_eq_true] at hf
      have q := Reps.inV g f h2 hf.2
      unfold L2.inV memD at q ⊢
      rw [List.any_cons, List.any_cons, q, h1.eqV g hf.1 f]
def itemsD : D → Option (List D)
  | .list ds => some ds
  | .tuple ds => some ds
  | _ => none
theorem Rep.seq {K : PySem.W.Frag} {F : Hp} {v : V} {d : D} {ds : List D} (h : Rep K F v d) (e : itemsD d = some ds) : ∃ a xs, v = .ref a ∧ (SqL K F a xs ∨ SqT K F a xs) ∧ Reps K F xs ds ∧ ds.length ≤ sizeLine := by
  cases d with
  | list es =>
    cases e
    obtain ⟨a, xs, rfl, h1, h2, h3⟩ := h.lstI
    exact ⟨a, xs, rfl, .inl (SqL.of h1), h2, h3⟩
  | tuple es =>
    cases e
    obtain ⟨a, xs, rfl, h1, h2, h3⟩ := h.tupI
    exact ⟨a, xs, rfl, .inr h1, h2, h3⟩
  | _ => cases e
/-- x in xs: flat items of a list or tuple; a text in a text -/
def inD (neg : Bool) : D2 := fun d e Q => match itemsD e with
  | some ds => (flatD d = true ∧ ds.all flatD = true) ∧ Q (.bool (if neg then !memD d ds else memD d ds))
  | none => match d, e with
    | .str i, .str j => Q (.bool (if neg then !(!(Builtin.Str.occurrences j i 0 j.length 1).isEmpty) else (!(Builtin.Str.occurrences j i 0 j.length 1).isEmpty)))
    | _, _ => False
theorem sv_in {K : PySem.W.Frag} {neg : Bool} : Serves K c (fun x y H Q => rIn K neg x y H Q ∨ ∃ i j, x = .str i ∧ y = .str j ∧ Q (.bl (if neg then !(!(Builtin.Str.occurrences j i 0 j.length 1).isEmpty) else (!(Builtin.Str.occurrences j i 0 j.length 1).isEmpty))) H) (inD neg) := by
  intro F H x y d e R Q ex rx ry h k
  unfold inD at h
  split at h
  · rename_i ds es
    obtain ⟨p, ys, rfl, h1, h2, h3⟩ := ry.seq es
    obtain ⟨⟨f1, f2⟩, h⟩ := h
    refine .inl ⟨p, ys, rfl, h1.imp (sqL_mono ex.fh) (sqT_mono ex.fh), by rw [rx.flat]; exact f1, by rw [h2.allFlat]; exact f2, ?_⟩
    rw [h2.inV rx f1 f2]
    exact k _ h _ F H ex (.bl _)
  · split at h
    · cases rx; cases ry
      exact .inr ⟨_, _, rfl, rfl, k _ h _ F H ex (.bl _)⟩
    · exact False.elim h
theorem op_inA : OpR X (compareOp .In) (fun x y H Q => rIn X.K false x y H Q ∨ ∃ i j, x = .str i ∧ y = .str j ∧ Q (.bl (if false = true then !(!(Builtin.Str.occurrences j i 0 j.length 1).isEmpty) else (!(Builtin.Str.occurrences j i 0 j.length 1).isEmpty))) H) := op_in_seq.or op_in_str
theorem op_notInA : OpR X (compareOp .NotIn) (fun x y H Q => rIn X.K true x y H Q ∨ ∃ i j, x = .str i ∧ y = .str j ∧ Q (.bl (if true = true then !(!(Builtin.Str.occurrences j i 0 j.length 1).isEmpty) else (!(Builtin.Str.occurrences j i 0 j.length 1).isEmpty))) H) := op_notIn_seq.or op_notin_str
theorem de_in (ha : DE X c a ma) (hb : DE X c b mb) (hm : behindInMarks .In b = false := by rfl) : DE X c (.Compare a [.In] [b] pos) (dOp (inD false) ma mb) := de_cmp op_inA sv_in ha hb hm
theorem dt_in (ha : DE X c a ma) (hb : DE X c b mb) (hm : behindInMarks .In b = false := by rfl) : DT X c (.Compare a [.In] [b] pos) (dT (dOp (inD false) ma mb)) := dt_cmp op_inA sv_in ha hb hm
theorem de_notIn (ha : DE X c a ma) (hb : DE X c b mb) (hm : behindInMarks .NotIn b = false := by rfl) : DE X c (.Compare a [.NotIn] [b] pos) (dOp (inD true) ma mb) := de_cmp op_notInA sv_in ha hb hm
theorem dt_notIn (ha : DE X c a ma) (hb : DE X c b mb) (hm : behindInMarks .NotIn b = false := by rfl) : DT X c (.Compare a [.NotIn] [b] pos) (dT (dOp (inD true) ma mb)) := dt_cmp op_notInA sv_in ha hb hm

def negD (d : D) (Q : D → Prop) : Prop := match d with | .int i => Q (.int (-i)) | _ => False
def dNeg (m : DTE) (en : En) (Q : D → Prop) : Prop := m en fun d => negD d Q
theorem de_neg (ha : DE X c a ma) : DE X c (.UnaryOp .USub a pos) (dNeg ma) := by
  refine ⟨PE.imp (pe_un un_neg ha.run) fun σ H Q h => ?_⟩
  obtain ⟨F, en, R, r, h, k⟩ := h
  refine ⟨F, en, _, r, h, fun d hd v F' H' x rv => ?_⟩
  cases d with
  | int i => cases rv; exact ⟨i, rfl, k _ hd _ F' H' x (.int _)⟩
  | _ => exact False.elim hd
def notD (d : D) (Q : D → Prop) : Prop := asB d fun b => Q (.bool (!b))
def dNot (m : DTE) (en : En) (Q : D → Prop) : Prop := m en fun d => notD d Q
theorem de_not (ha : DE X c a ma) : DE X c (.UnaryOp .Not a pos) (dNot ma) := by
  refine ⟨PE.imp (pe_not ha.run) fun σ H Q h => ?_⟩
  obtain ⟨F, en, R, r, h, k⟩ := h
  refine ⟨F, en, _, r, h, fun d hd v F' H' x rv => ?_⟩
  cases d with
  | bool i => cases rv; exact ⟨i, rfl, k _ hd _ F' H' x (.bl _)⟩
  | _ => exact False.elim hd
def dTNot (m : DTT) (en : En) (Q : Bool → Prop) : Prop := m en fun b => Q (!b)
theorem dt_not (ha : DT X c a mt) : DT X c (.UnaryOp .Not a pos) (dTNot mt) := by
  refine ⟨PT.imp (pt_not ha.run) fun σ H Q h => ?_⟩
  obtain ⟨F, en, R, r, h, k⟩ := h
  exact ⟨F, en, _, r, h, fun d hd F' H' x => k _ hd F' H' x⟩
def dAnd (ma mb : DTE) (en : En) (Q : D → Prop) : Prop := ma en fun d => asB d fun b => Cnd b (mb en Q) (Q (.bool false))
def dOr (ma mb : DTE) (en : En) (Q : D → Prop) : Prop := ma en fun d => asB d fun b => Cnd b (Q (.bool true)) (mb en Q)
variable {rest : List Expr}
theorem de_one {op} (h : DE X c a ma) : DE X c (.BoolOp op [a] pos) ma := ⟨pe_one h.run⟩
theorem de_and (ha : DE X c a ma) (hb : DE X c (.BoolOp .And (b :: rest) pos) mb) : DE X c (.BoolOp .And (a :: b :: rest) pos) (dAnd ma mb) := by
  refine ⟨PE.imp (pe_and ha.run hb.run) fun σ H Q h => ?_⟩
  obtain ⟨F, en, R, r, h, k⟩ := h
  refine ⟨F, en, _, r, h, fun d hd v F' H' x rv => ?_⟩
  cases d with
  | bool i =>
    cases rv
    refine ⟨i, rfl, ?_⟩
    cases i with
    | true => exact ⟨F', en, R, r.grow x, hd, fun z hz v' F2 H2 x2 rz => k z hz v' F2 H2 (x.trans x2) rz⟩
    | false => exact k _ hd _ F' H' x (.bl _)
  | _ => exact False.elim hd
theorem de_or (ha : DE X c a ma) (hb : DE X c (.BoolOp .Or (b :: rest) pos) mb) : DE X c (.BoolOp .Or (a :: b :: rest) pos) (dOr ma mb) := by
  refine ⟨PE.imp (pe_or ha.run hb.run) fun σ H Q h => ?_⟩
  obtain ⟨F, en, R, r, h, k⟩ := h
  refine ⟨F, en, _, r, h, fun d hd v F' H' x rv => ?_⟩
  cases d with
  | bool i =>
    cases rv
    refine ⟨i, rfl, ?_⟩
    cases i with
    | false => exact ⟨F', en, R, r.grow x, hd, fun z hz v' F2 H2 x2 rz => k z hz v' F2 H2 (x.trans x2) rz⟩
    | true => exact k _ hd _ F' H' x (.bl _)
  | _ => exact False.elim hd
structure DW (X : Cx) (c : Ct) (e : Expr) (m : DTT) : Prop where
  run : PW X e (liftT X.K c m)
theorem PW.imp {X : Cx} {e : Expr} {t t' : TT} (h : PW X e t) (k : ∀ σ H Q, t' σ H Q → t σ H Q) : PW X e t' := ⟨fun wh pins s σ H Q I q => h.run wh pins s σ H Q I (k _ _ _ q)⟩
theorem DW.dt (h : DW X c e mt) : DT X c e mt := ⟨h.run.pt⟩
def dTAnd (ma mb : DTT) (en : En) (Q : Bool → Prop) : Prop := ma en fun b => Cnd b (mb en Q) (Q false)
def dTOr (ma mb : DTT) (en : En) (Q : Bool → Prop) : Prop := ma en fun b => Cnd b (Q true) (mb en Q)
theorem dw_and1 (ha : DT X c a mt) : DW X c (.BoolOp .And [a] pos) mt := ⟨pw_and1 ha.run⟩
theorem dw_or1 (ha : DT X c a mt) : DW X c (.BoolOp .Or [a] pos) mt := ⟨pw_or1 ha.run⟩
theorem dw_and (ha : DT X c a mt) (hb : DW X c (.BoolOp .And (b :: rest) pos) mu) : DW X c (.BoolOp .And (a :: b :: rest) pos) (dTAnd mt mu) := by
  refine ⟨PW.imp (pw_and ha.run hb.run) fun σ H Q h => ?_⟩
  obtain ⟨F, en, R, r, h, k⟩ := h
  refine ⟨F, en, _, r, h, fun i hd F' H' x => ?_⟩
  cases i with
  | true => exact ⟨F', en, R, r.grow x, hd, fun z hz F2 H2 x2 => k z hz F2 H2 (x.trans x2)⟩
  | false => exact k _ hd F' H' x
theorem dw_or (ha : DT X c a mt) (hb : DW X c (.BoolOp .Or (b :: rest) pos) mu) : DW X c (.BoolOp .Or (a :: b :: rest) pos) (dTOr mt mu) := by
  refine ⟨PW.imp (pw_or ha.run hb.run) fun σ H Q h => ?_⟩
  obtain ⟨F, en, R, r, h, k⟩ := h
  refine ⟨F, en, _, r, h, fun i hd F' H' x => ?_⟩
  cases i with
  | false => exact ⟨F', en, R, r.grow x, hd, fun z hz F2 H2 x2 => k z hz F2 H2 (x.trans x2)⟩
  | true => exact k _ hd F' H' x
def dIf (mt : DTT) (ma mb : DTE) (en : En) (Q : D → Prop) : Prop := mt en fun b => Cnd b (ma en Q) (mb en Q)
theorem de_if {t : Expr} (ht : DT X c t mt) (ha : DE X c a ma) (hb : DE X c b mb) : DE X c (.IfExp t a b pos) (dIf mt ma mb) := by
  refine ⟨PE.imp (pe_ifExp ht.run ha.run hb.run) fun σ H Q h => ?_⟩
  obtain ⟨F, en, R, r, h, k⟩ := h
  refine ⟨F, en, _, r, h, fun i hd F' H' x => ?_⟩
  cases i with
  | false => exact ⟨F', en, R, r.grow x, hd, fun z hz v F2 H2 x2 rz => k z hz v F2 H2 (x.trans x2) rz⟩
  | true => exact ⟨F', en, R, r.grow x, hd, fun z hz v F2 H2 x2 rz => k z hz v F2 H2 (x.trans x2) rz⟩
/-- two comparisons in a chain -/
def dCh (d2 d3 : D2) (ma mb mc : DTE) (en : En) (Q : D → Prop) : Prop := ma en fun x => mb en fun y => d2 x y fun z => asB z fun b => Cnd b (mc en fun w => d3 y w Q) (Q (.bool false))
theorem lift_ch {K : PySem.W.Frag} {r2 r3 : R2} {d2 d3 : D2} {mc : DTE} (sv : Serves K c r2 d2) (sv' : Serves K c r3 d3) {σ : St} {H : Hp} {Q : VK} (h : liftE K c (dCh d2 d3 ma mb mc) σ H Q) : tChain r2 r3 (liftE K c ma) (liftE K c mb) (liftE K c mc) σ H Q := by
  obtain ⟨F, en, R, r, h, k⟩ := h
  refine ⟨F, en, _, r, h, fun d hd v F1 H1 x1 rv => ?_⟩
  refine ⟨F1, en, _, r.grow x1, hd, fun e he u F2 H2 x2 ru => ?_⟩
  refine sv F2 H2 v u d e _ _ x2.self (Rep.mono x2.ff _ _ rv) ru he fun z hz v' F3 H3 x3 rz => ?_
  cases z with
  | bool i =>
    cases rz
    refine ⟨i, rfl, ?_⟩
    cases i with
    | true =>
      refine ⟨F3, en, _, (r.grow (x1.trans x2)).grow x3, hz, fun w hw v4 F4 H4 x4 r4 => ?_⟩
      exact sv' F4 H4 u v4 e w R Q x4.self (Rep.mono x4.ff _ _ (Rep.mono x3.ff _ _ ru)) r4 hw fun z hz v5 F5 H5 x5 r5 => k z hz v5 F5 H5 (x1.trans (x2.trans (x3.trans (x4.trans x5)))) r5
    | false => exact k _ hz _ F3 H3 (x1.trans (x2.trans x3)) (.bl _)
  | _ => exact False.elim hz
variable {cc : Expr} {mc : DTE}
theorem de_ch {op op' : CmpOp} {r2 r3 : R2} {d2 d3 : D2} (ho : OpR X (compareOp op) r2) (ho' : OpR X (compareOp op') r3) (sv : Serves X.K c r2 d2) (sv' : Serves X.K c r3 d3) (ha : DE X c a ma) (hb : DE X c b mb) (hc : DE X c cc mc)
    (hm : lastMarks [op, op'] [b, cc] = false := by with_unfolding_all rfl) : DE X c (.Compare a [op, op'] [b, cc] pos) (dCh d2 d3 ma mb mc) :=
  ⟨PE.imp (pe_chain ho ho' ha.run hb.run hc.run hm) fun _ _ _ h => lift_ch sv sv' h⟩
theorem dt_ch {op op' : CmpOp} {r2 r3 : R2} {d2 d3 : D2} (ho : OpR X (compareOp op) r2) (ho' : OpR X (compareOp op') r3) (sv : Serves X.K c r2 d2) (sv' : Serves X.K c r3 d3) (ha : DE X c a ma) (hb : DE X c b mb) (hc : DE X c cc mc)
    (hm : lastMarks [op, op'] [b, cc] = false := by with_unfolding_all rfl) : DT X c (.Compare a [op, op'] [b, cc] pos) (dT (dCh d2 d3 ma mb mc)) :=
  ⟨PT.imp (pt_chain ho ho' ha.run hb.run hc.run hm) fun _ _ _ h => lift_ch sv sv' (lift_test h)⟩

def dNil (_x : En) (Q : List D → Prop) : Prop := Q []
def dCons (m : DTE) (ml : DTA) (en : En) (Q : List D → Prop) : Prop := m en fun d => ml en fun ds => Q (d :: ds)
theorem da_nil : DA X c [] dNil := ⟨PA.imp pa_nil fun σ H Q ⟨F, en, R, r, h, k⟩ => k _ h _ F H r.ext.self .nil rfl⟩
theorem da_cons (ha : DE X c e m) (hr : DA X c es ml) (hs : starEach (e :: es) X.env = (false, eval e X.env) :: starEach es X.env := by rfl) : DA X c (e :: es) (dCons m ml) := by
  refine ⟨PA.imp (pa_cons ha.run hr.run hs) fun σ H Q h => ?_⟩
  obtain ⟨F, en, R, r, h, k⟩ := h
  refine ⟨F, en, _, r, h, fun d hd v F1 H1 x1 rv => ?_⟩
  refine ⟨F1, en, _, r.grow x1, hd, fun ds he vs F2 H2 x2 ru hn => ?_⟩
  exact k _ he _ F2 H2 (x1.trans x2) (.cons (Rep.mono x2.ff _ _ rv) ru) (by rw [List.length_cons, hn, List.length_cons])
def dTup (ml : DTA) (en : En) (Q : D → Prop) : Prop := ml en fun ds => Q (.tuple ds)
def dLst (ml : DTA) (en : En) (Q : D → Prop) : Prop := ml en fun ds => Q (.list ds)
theorem de_tup {x1} (h : DA X c es ml) (hz : es.length ≤ sizeLine := by decide) : DE X c (.Tuple es x1 pos) (dTup ml) := by
  refine ⟨PE.imp (pe_tup h.run) fun σ H Q h => ?_⟩
  obtain ⟨F, en, R, r, h, k⟩ := h
  refine ⟨F, en, _, r, h, fun ds hd vs F1 H1 x1 rv hn => ?_⟩
  refine ⟨by rw [hn]; exact hz, fun p hp => ?_⟩
  obtain ⟨y1, y2⟩ := newTup (ds := ds) x1.self hp rv (by rw [← rv.len, hn]; exact hz)
  exact k _ hd _ _ _ (x1.trans y1) y2
theorem de_lst (h : DA X c es ml) (hz : es.length ≤ sizeLine := by decide) : DE X c (.List es pos) (dLst ml) := by
  refine ⟨PE.imp (pe_lst h.run) fun σ H Q h => ?_⟩
  obtain ⟨F, en, R, r, h, k⟩ := h
  refine ⟨F, en, _, r, h, fun ds hd vs F1 H1 x1 rv hn => ?_⟩
  refine ⟨by rw [hn]; exact hz, fun p hp => ?_⟩
  obtain ⟨y1, y2⟩ := newLst (ds := ds) x1.self hp rv (by rw [← rv.len, hn]; exact hz)
  exact k _ hd _ _ _ (x1.trans y1) y2
end
end Lay
namespace Lay
open PySem PySem.Spec L2
open PyProof.Rows hiding St

section
variable {X : Cx} {c : Ct} {e a b : Expr} {es : List Expr} {m ma mb : DTE} {ml : DTA} {mt mu : DTT} {pos : Pos}

def optD (o : Option D) (Q : D → Prop) : Prop := match o with | some d => Q d | none => False
def ixL (ds : List D) (e : D) (Q : D → Prop) : Prop := match e with | .int i => optD (atI ds i) Q | _ => False
def ixD : D2 := fun d e Q => match d with
  | .list ds => ixL ds e Q
  | .tuple ds => ixL ds e Q
  | .str z => match e with
    | .int i => z.length ≤ sizeLine ∧ (match atI z.cps.toList i with | some ch => Q (.str ⟨#[ch]⟩) | none => False)
    | _ => False
  | _ => False
theorem Reps.atI {K : PySem.W.Frag} {F : Hp} {ds : List D} {vs : List V} {i : Int} {d : D} (h : Reps K F vs ds) (e : L2.atI ds i = some d) : ∃ v, L2.atI vs i = some v ∧ Rep K F v d := by
  unfold L2.atI at e ⊢
  rw [h.len]
  cases q : ixN ds.length i with
  | none => rw [q] at e; cases e
  | some j =>
    rw [q] at e
    exact h.get e
theorem ixL_inv {ds : List D} {e : D} {Q : D → Prop} (h : ixL ds e Q) : ∃ i d, e = .int i ∧ atI ds i = some d ∧ Q d := by
  unfold ixL at h
  split at h
  · unfold optD at h
    split at h
    · exact ⟨_, _, rfl, by assumption, h⟩
    · exact h.elim
  · exact h.elim
theorem sv_ix {K : PySem.W.Frag} : Serves K c (rIx K) ixD := by
  intro F H x y d e R Q ex rx ry h k
  unfold ixD at h
  split at h
  · obtain ⟨i, z, rfl, h1, h2⟩ := ixL_inv h
    obtain ⟨p, xs, rfl, g1, g2, g3⟩ := rx.lstI
    obtain ⟨v, q1, q2⟩ := g2.atI h1
    cases ry
    exact .inl ⟨p, xs, i, v, rfl, rfl, SqL.of (ex.fh _ _ g1), q1, k _ h2 _ F H ex q2⟩
  · obtain ⟨i, z, rfl, h1, h2⟩ := ixL_inv h
    obtain ⟨p, xs, rfl, g1, g2, g3⟩ := rx.tupI
    obtain ⟨v, q1, q2⟩ := g2.atI h1
    cases ry
    exact .inr (.inl ⟨p, xs, i, v, rfl, rfl, sqT_mono ex.fh g1, q1, k _ h2 _ F H ex q2⟩)
  · split at h
    · obtain ⟨hz, h⟩ := h
      split at h
      · cases rx; cases ry
        exact .inr (.inr ⟨_, _, _, rfl, rfl, hz, by assumption, k _ h _ F H ex (.str _)⟩)
      · exact h.elim
    · exact h.elim
  · exact h.elim
theorem de_ix (ha : DE X c a ma) (hb : DE X c b mb) (hs : PlainIx b := by exact fun _ _ => rfl) : DE X c (.Subscript a b pos) (dOp ixD ma mb) :=
  ⟨PE.imp (pe_ix ix_seq ha.run hb.run hs) fun _ _ _ h => lift_two sv_ix h⟩
/-- x[e], x a list of the def's own -/
def dIxO (i : Nat) (m : DTE) (en : En) (Q : D → Prop) : Prop := onOwn (gt en i) fun ds => m en fun d => ixL ds d Q
theorem de_ixO {i : Nat} {x : Str} {px : Pos} (hN : X.N[i]? = some x) (hv : Vis X.env.scope x) (hb : DE X c b mb) (hs : PlainIx b := by exact fun _ _ => rfl) (hd : (x == ("__debug__" : Str)) = false := by decide) (hcd : (x == ("__classdict__" : Str)) = false := by decide) :
    DE X c (.Subscript (.Name x px) b pos) (dIxO i mb) := by
  refine ⟨PE.imp (pe_ix ix_seq (pe_var hN hv hd hcd) hb.run hs) fun σ H Q h => ?_⟩
  obtain ⟨F, en, R, r, h, k⟩ := h
  unfold dIxO onOwn at h
  split at h
  · rename_i ds hg
    obtain ⟨ov, e1, p, vs, e2, e3, e4, e5⟩ := r.sl i _ (gt_get hg (fun z => nomatch z))
    subst e2
    refine ⟨_, e1, F, en, _, r, h, fun d hd v F' H' x rv => ?_⟩
    obtain ⟨j, z, rfl, h1, h2⟩ := ixL_inv hd
    obtain ⟨u, q1, q2⟩ := (Reps.mono x.ff _ _ e4).atI h1
    cases rv
    exact .inl ⟨p, vs, j, u, rfl, rfl, SqL.of (x.hh _ _ e3 (r.notW ⟨e1, _, gt_get hg (fun z => nomatch z), rfl⟩)), q1, k _ h2 _ F' H' x q2⟩
  · exact h.elim

def liftO (K : PySem.W.Frag) (c : Ct) (m : En → (Option Int → Prop) → Prop) : TO := fun σ H Q => ∃ F en R, SR K c F σ H en ∧ m en R ∧ ∀ o, R o → ∀ F' H', Ext c.wo F H F' H' → Q o H'
structure DO (X : Cx) (c : Ct) (e : Option Expr) (m : En → (Option Int → Prop) → Prop) : Prop where
  run : PO X e (liftO X.K c m)
def onInt (d : D) (K : Int → Prop) : Prop := match d with | .int i => K i | _ => False
def dNo (_x : En) (Q : Option Int → Prop) : Prop := Q none
def dPt (m : DTE) (en : En) (Q : Option Int → Prop) : Prop := m en fun d => onInt d fun i => Q (some i)
theorem PO.imp {X : Cx} {e : Option Expr} {t t' : TO} (h : PO X e t) (k : ∀ σ H Q, t' σ H Q → t σ H Q) : PO X e t' := ⟨fun pins s σ H Q I q => h.run pins s σ H Q I (k _ _ _ q)⟩
theorem do_none : DO X c none dNo := ⟨PO.imp po_none fun σ H Q ⟨F, en, R, r, h, k⟩ => k _ h F H r.ext.self⟩
theorem do_some (he : DE X c e m) : DO X c (some e) (dPt m) := by
  refine ⟨PO.imp (po_some he.run) fun σ H Q h => ?_⟩
  obtain ⟨F, en, R, r, h, k⟩ := h
  refine ⟨F, en, _, r, h, fun d hd v F' H' x rv => ?_⟩
  cases d with
  | int i => cases rv; exact ⟨i, rfl, k _ hd F' H' x⟩
  | _ => exact False.elim hd
def cutL {α : Type} (xs : List α) (lo hi : Option Int) : List α := (xs.drop (HT.sIx xs.length 0 lo)).take (HT.sIx xs.length xs.length hi - HT.sIx xs.length 0 lo)
theorem cutL_length {α : Type} (xs : List α) (lo hi : Option Int) : (cutL xs lo hi).length ≤ xs.length := by
  unfold cutL
  rw [List.length_take, List.length_drop]
  omega
theorem Reps.cut {K : PySem.W.Frag} {F : Hp} {ds : List D} {vs : List V} (h : Reps K F vs ds) (lo hi : Option Int) : Reps K F (cutV vs lo hi) (cutL ds lo hi) := by
  unfold cutV cutL
  rw [h.len]
  exact (h.drop _).take _
def slD (d : D) (lo hi : Option Int) (Q : D → Prop) : Prop := match d with
  | .list ds => Q (.list (cutL ds lo hi))
  | .tuple ds => Q (.tuple (cutL ds lo hi))
  | .str z => z.length ≤ sizeLine ∧ Q (.str (cutS z lo hi))
  | _ => False
def dSl (m : DTE) (ml mh : En → (Option Int → Prop) → Prop) (en : En) (Q : D → Prop) : Prop := m en fun d => ml en fun lo => mh en fun hi => slD d lo hi Q
theorem cutV_whole {α : Type} {xs : List α} {lo hi : Option Int} (h : HT.sIx xs.length 0 lo = 0 ∧ HT.sIx xs.length xs.length hi = xs.length) : cutL xs lo hi = xs := by
  unfold cutL
  rw [h.1, h.2]
  simp
theorem de_slice {lo hi : Option Expr} {p2 : Pos} {tl th : En → (Option Int → Prop) → Prop} (he : DE X c e m) (hl : DO X c lo tl) (hh : DO X c hi th) : DE X c (.Subscript e (.Slice lo hi none p2) pos) (dSl m tl th) := by
  refine ⟨PE.imp (pe_slice (sl_list.or (sl_tupA.or sl_str)) he.run hl.run hh.run) fun σ H Q h => ?_⟩
  obtain ⟨F, en, R, r, h, k⟩ := h
  refine ⟨F, en, _, r, h, fun d hd v F1 H1 x1 rv => ?_⟩
  refine ⟨F1, en, _, r.grow x1, hd, fun l h2 F2 H2 x2 => ?_⟩
  refine ⟨F2, en, _, (r.grow x1).grow x2, h2, fun u h3 F3 H3 x3 => ?_⟩
  have rv := Rep.mono x3.ff _ _ (Rep.mono x2.ff _ _ rv)
  have x := x1.trans (x2.trans x3)
  have xs := x.self
  unfold slD at h3
  split at h3
  · obtain ⟨p, ys, rfl, g1, g2, g3⟩ := rv.lstI
    refine .inl ⟨p, ys, rfl, SqL.of (x.fh _ _ g1), fun t ht => ?_⟩
    obtain ⟨y1, y2⟩ := newLst (c := c) xs ht (g2.cut l u) (Nat.le_trans (cutL_length _ _ _) g3)
    exact k _ h3 _ _ _ (x.trans y1) y2
  · rename_i ds
    obtain ⟨p, ys, rfl, g1, g2, g3⟩ := rv.tupI
    refine .inr (.inl ⟨p, ys, rfl, sqT_mono x.fh g1, fun w => ?_, fun w t ht => ?_⟩)
    · rw [g2.len] at w
      rw [cutV_whole w] at h3
      exact k _ h3 _ _ _ x rv
    · obtain ⟨y1, y2⟩ := newTup (c := c) xs ht (g2.cut l u) (Nat.le_trans (cutL_length _ _ _) g3)
      exact k _ h3 _ _ _ (x.trans y1) y2
  · cases rv
    exact .inr (.inr ⟨_, rfl, h3.1, k _ h3.2 _ _ _ x (.str _)⟩)
  · exact h3.elim

abbrev DC := List D → (D → Prop) → Prop
def ServesC (K : PySem.W.Frag) (c : Ct) (r : List V → Hp → VK → Prop) (d : DC) : Prop :=
  ∀ (F H : Hp) (vs : List V) (ds : List D) (R : D → Prop) (Q : VK), Ext c.wo F H F H → Reps K F vs ds → d ds R → (∀ z, R z → ∀ v F' H', Ext c.wo F H F' H' → Rep K F' v z → Q v H') → r vs H Q
def dB (d : DC) (ml : DTA) (en : En) (Q : D → Prop) : Prop := ml en fun ds => d ds Q
theorem lift_cb {K : PySem.W.Frag} {r : List V → Hp → VK → Prop} {d : DC} {n : Nat} (sv : ServesC K c r d) {σ : St} {H : Hp} {Q : VK} (h : liftE K c (dB d ml) σ H Q) : tCB r (liftA K c n ml) σ H Q := by
  obtain ⟨F, en, R, r, h, k⟩ := h
  refine ⟨F, en, _, r, h, fun ds hd vs F1 H1 x1 rv _ => ?_⟩
  exact sv F1 H1 vs ds R Q x1.self rv hd fun z hz v F' H' x rz => k z hz v F' H' (x1.trans x) rz
theorem de_callB {x : Str} {p : Pos} {id : String} {r : List V → Hp → VK → Prop} {d : DC} (hc : CallR X (.builtin id) r) (sv : ServesC X.K c r d) (hg : Gl X x) (hm : X.mg x = none) (hv : bootBuiltins x = some (.builtin id)) (ha : DA X c (e :: es) ml)
    (hn : x ≠ "__name__" := by decide) (hdb : (x == ("__debug__" : Str)) = false := by decide)
    (he : starEach (e :: es) X.env = (false, eval e X.env) :: starEach es X.env := by rfl) (hpl : (backTo pos (starEach es X.env)).any (·.1) = false := by rfl) : DE X c (.Call (.Name x p) (e :: es) [] pos) (dB d ml) :=
  ⟨PE.imp (pe_callB hc hg hm hv ha.run hn hdb he hpl) fun _ _ _ h => lift_cb sv h⟩
theorem de_callTy {x : Str} {p : Pos} {T : String} {r : List V → Hp → VK → Prop} {d : DC} (hc : CallR X (.type T) r) (sv : ServesC X.K c r d) (hg : Gl X x) (hm : X.mg x = none) (hv : bootBuiltins x = some (.type T)) (ha : DA X c (e :: es) ml)
    (hn : x ≠ "__name__" := by decide) (hdb : (x == ("__debug__" : Str)) = false := by decide)
    (he : starEach (e :: es) X.env = (false, eval e X.env) :: starEach es X.env := by rfl) (hpl : (backTo pos (starEach es X.env)).any (·.1) = false := by rfl) : DE X c (.Call (.Name x p) (e :: es) [] pos) (dB d ml) :=
  ⟨PE.imp (pe_callTy hc hg hm hv ha.run hn hdb he hpl) fun _ _ _ h => lift_cb sv h⟩
theorem Reps.one {K : PySem.W.Frag} {F : Hp} {vs : List V} {d : D} (h : Reps K F vs [d]) : ∃ v, vs = [v] ∧ Rep K F v d := by
  cases h with
  | cons h1 h2 => cases h2; exact ⟨_, rfl, h1⟩
theorem Reps.two {K : PySem.W.Frag} {F : Hp} {vs : List V} {d e : D} (h : Reps K F vs [d, e]) : ∃ v u, vs = [v, u] ∧ Rep K F v d ∧ Rep K F u e := by
  cases h with
  | cons h1 h2 =>
    obtain ⟨u, rfl, h3⟩ := h2.one
    exact ⟨_, _, rfl, h1, h3⟩
/-- abs -/
def absD : DC := fun ds Q => match ds with | [.int i] => Q (.int (i.natAbs : Int)) | _ => False
theorem sv_abs {K : PySem.W.Frag} : ServesC K c (fun xs H Q => ∃ i, xs = [.int i] ∧ Q (.int (if i < 0 then -i else i)) H) absD := by
  intro F H vs ds R Q ex rv h k
  unfold absD at h
  split at h
  · rename_i i
    obtain ⟨v, rfl, r1⟩ := rv.one
    cases r1
    refine ⟨i, rfl, ?_⟩
    have e : (if i < 0 then -i else i) = (i.natAbs : Int) := by split <;> omega
    rw [e]
    exact k _ h _ F H ex (.int _)
  · exact h.elim
theorem de_abs {p : Pos} (hg : Gl X "abs") (hm : X.mg "abs" = none) (ha : DA X c [a] ml) (he : starEach [a] X.env = (false, eval a X.env) :: starEach [] X.env := by rfl) (hpl : (backTo pos (starEach [] X.env)).any (·.1) = false := by rfl) : DE X c (.Call (.Name "abs" p) [a] [] pos) (dB absD ml) :=
  de_callB call_abs sv_abs hg hm boot_abs ha (by decide) (by decide) he hpl
/-- int(..) of an int, a bool -/
def intD : DC := fun ds Q => match ds with | [.int i] => Q (.int i) | [.bool k] => Q (.int (if k then 1 else 0)) | _ => False
theorem sv_int1 {K : PySem.W.Frag} : ServesC K c (fun xs H Q => (∃ i, xs = [.int i] ∧ Q (.int i) H) ∨ ∃ k, xs = [.bl k] ∧ Q (.int (if k then 1 else 0)) H) intD := by
  intro F H vs ds R Q ex rv h k
  unfold intD at h
  split at h
  · obtain ⟨v, rfl, r1⟩ := rv.one
    cases r1
    exact .inl ⟨_, rfl, k _ h _ F H ex (.int _)⟩
  · obtain ⟨v, rfl, r1⟩ := rv.one
    cases r1
    exact .inr ⟨_, rfl, k _ h _ F H ex (.int _)⟩
  · exact h.elim
theorem de_int1 {p : Pos} (hg : Gl X "int") (hm : X.mg "int" = none) (ha : DA X c [a] ml) (he : starEach [a] X.env = (false, eval a X.env) :: starEach [] X.env := by rfl) (hpl : (backTo pos (starEach [] X.env)).any (·.1) = false := by rfl) : DE X c (.Call (.Name "int" p) [a] [] pos) (dB intD ml) :=
  de_callTy call_int1 sv_int1 hg hm boot_int ha (by decide) (by decide) he hpl
/-- len -/
def lenD : DC := fun ds Q => match ds with
  | [.list xs] => Q (.int xs.length)
  | [.tuple xs] => Q (.int xs.length)
  | [.str z] => z.length ≤ sizeLine ∧ Q (.int z.length)
  | _ => False
theorem sv_len {K : PySem.W.Frag} : ServesC K c (fun xs H Q => (∃ p ys, xs = [.ref p] ∧ (SqL K H p ys ∨ SqT K H p ys) ∧ Q (.int ys.length) H) ∨ ∃ z, xs = [.str z] ∧ z.length ≤ sizeLine ∧ Q (.int z.length) H) lenD := by
  intro F H vs ds R Q ex rv h k
  unfold lenD at h
  split at h
  · obtain ⟨v, rfl, r1⟩ := rv.one
    obtain ⟨p, ys, rfl, g1, g2, g3⟩ := r1.lstI
    exact .inl ⟨p, ys, rfl, .inl (SqL.of (ex.fh _ _ g1)), by rw [g2.len]; exact k _ h _ F H ex (.int _)⟩
  · obtain ⟨v, rfl, r1⟩ := rv.one
    obtain ⟨p, ys, rfl, g1, g2, g3⟩ := r1.tupI
    exact .inl ⟨p, ys, rfl, .inr (sqT_mono ex.fh g1), by rw [g2.len]; exact k _ h _ F H ex (.int _)⟩
  · obtain ⟨v, rfl, r1⟩ := rv.one
    cases r1
    exact .inr ⟨_, rfl, h.1, k _ h.2 _ F H ex (.int _)⟩
  · exact h.elim
theorem de_len {p : Pos} (hg : Gl X "len") (hm : X.mg "len" = none) (ha : DA X c [a] ml) (he : starEach [a] X.env = (false, eval a X.env) :: starEach [] X.env := by rfl) (hpl : (backTo pos (starEach [] X.env)).any (·.1) = false := by rfl) : DE X c (.Call (.Name "len" p) [a] [] pos) (dB lenD ml) :=
  de_callB (call_len_seq.or call_len_str) sv_len hg hm PySem.boot_len ha (by decide) (by decide) he hpl
/-- len(x), x a list of the def's own -/
def dLenO (i : Nat) (en : En) (Q : D → Prop) : Prop := onOwn (gt en i) fun ds => Q (.int ds.length)
theorem de_lenO {i : Nat} {x : Str} {p px : Pos} (hg : Gl X "len") (hm : X.mg "len" = none) (hN : X.N[i]? = some x) (hv : Vis X.env.scope x) (hd : (x == ("__debug__" : Str)) = false := by decide) (hcd : (x == ("__classdict__" : Str)) = false := by decide)
    (he : starEach [.Name x px] X.env = (false, eval (.Name x px) X.env) :: starEach [] X.env := by rfl) (hpl : (backTo pos (starEach [] X.env)).any (·.1) = false := by rfl) : DE X c (.Call (.Name "len" p) [.Name x px] [] pos) (dLenO i) := by
  refine ⟨PE.imp (pe_callB call_len_seq hg hm PySem.boot_len (pa_cons (pe_var hN hv hd hcd) pa_nil he) (by decide) (by decide) he hpl) fun σ H Q h => ?_⟩
  obtain ⟨F, en, R, r, h, k⟩ := h
  unfold dLenO onOwn at h
  split at h
  · rename_i ds hg
    obtain ⟨ov, e1, p, vs, e2, e3, e4, e5⟩ := r.sl i _ (gt_get hg (fun z => nomatch z))
    subst e2
    exact ⟨_, e1, p, vs, rfl, .inl (SqL.of e3), by rw [e4.len]; exact k _ h _ F H r.ext.self (.int _)⟩
  · exact h.elim
/-- tuple(..), list(..) of a list or tuple -/
def tupleD : DC := fun ds Q => match ds with | [.list xs] => Q (.tuple xs) | [.tuple xs] => Q (.tuple xs) | _ => False
theorem sv_tuple {K : PySem.W.Frag} : ServesC K c (fun xs H Q => ∃ p ys, xs = [.ref p] ∧ ((SqL K H p ys ∧ ∀ l, H l = none → Q (.ref l) (upd H l (.tup ys))) ∨ (SqT K H p ys ∧ Q (.ref p) H))) tupleD := by
  intro F H vs ds R Q ex rv h k
  unfold tupleD at h
  split at h
  · obtain ⟨v, rfl, r1⟩ := rv.one
    obtain ⟨p, ys, rfl, g1, g2, g3⟩ := r1.lstI
    refine ⟨p, ys, rfl, .inl ⟨SqL.of (ex.fh _ _ g1), fun l hl => ?_⟩⟩
    obtain ⟨y1, y2⟩ := newTup ex hl g2 g3
    exact k _ h _ _ _ y1 y2
  · obtain ⟨v, rfl, r1⟩ := rv.one
    obtain ⟨p, ys, e, g1, g2, g3⟩ := r1.tupI
    subst e
    exact ⟨p, ys, rfl, .inr ⟨sqT_mono ex.fh g1, k _ h _ F H ex r1⟩⟩
  · exact h.elim
theorem de_tuple {p : Pos} (hg : Gl X "tuple") (hm : X.mg "tuple" = none) (ha : DA X c [a] ml) (he : starEach [a] X.env = (false, eval a X.env) :: starEach [] X.env := by rfl) (hpl : (backTo pos (starEach [] X.env)).any (·.1) = false := by rfl) : DE X c (.Call (.Name "tuple" p) [a] [] pos) (dB tupleD ml) :=
  de_callTy call_tuple_of sv_tuple hg hm boot_tuple ha (by decide) (by decide) he hpl
def listD : DC := fun ds Q => match ds with | [.list xs] => Q (.list xs) | [.tuple xs] => Q (.list xs) | _ => False
theorem sv_list {K : PySem.W.Frag} : ServesC K c (fun xs H Q => ∃ p ys, xs = [.ref p] ∧ (SqL K H p ys ∨ SqT K H p ys) ∧ ∀ l, H l = none → Q (.ref l) (upd H l (.lst ys))) listD := by
  intro F H vs ds R Q ex rv h k
  unfold listD at h
  split at h
  · obtain ⟨v, rfl, r1⟩ := rv.one
    obtain ⟨p, ys, rfl, g1, g2, g3⟩ := r1.lstI
    refine ⟨p, ys, rfl, .inl (SqL.of (ex.fh _ _ g1)), fun l hl => ?_⟩
    obtain ⟨y1, y2⟩ := newLst ex hl g2 g3
    exact k _ h _ _ _ y1 y2
  · obtain ⟨v, rfl, r1⟩ := rv.one
    obtain ⟨p, ys, rfl, g1, g2, g3⟩ := r1.tupI
    refine ⟨p, ys, rfl, .inr (sqT_mono ex.fh g1), fun l hl => ?_⟩
    obtain ⟨y1, y2⟩ := newLst ex hl g2 g3
    exact k _ h _ _ _ y1 y2
  · exact h.elim
theorem de_list {p : Pos} (hg : Gl X "list") (hm : X.mg "list" = none) (ha : DA X c [a] ml) (he : starEach [a] X.env = (false, eval a X.env) :: starEach [] X.env := by rfl) (hpl : (backTo pos (starEach [] X.env)).any (·.1) = false := by rfl) : DE X c (.Call (.Name "list" p) [a] [] pos) (dB listD ml) :=
  de_callTy call_list_of sv_list hg hm boot_list ha (by decide) (by decide) he hpl
/-- min, max of two ints -/
def min2D : DC := fun ds Q => match ds with | [.int i, .int j] => Q (.int (if j < i then j else i)) | _ => False
def max2D : DC := fun ds Q => match ds with | [.int i, .int j] => Q (.int (if j > i then j else i)) | _ => False
theorem sv_min2 {K : PySem.W.Frag} : ServesC K c (fun xs H Q => ∃ i j, xs = [.int i, .int j] ∧ Q (.int (if j < i then j else i)) H) min2D := by
  intro F H vs ds R Q ex rv h k
  unfold min2D at h
  split at h
  · obtain ⟨v, u, rfl, r1, r2⟩ := rv.two
    cases r1; cases r2
    exact ⟨_, _, rfl, k _ h _ F H ex (.int _)⟩
  · exact h.elim
theorem sv_max2 {K : PySem.W.Frag} : ServesC K c (fun xs H Q => ∃ i j, xs = [.int i, .int j] ∧ Q (.int (if j > i then j else i)) H) max2D := by
  intro F H vs ds R Q ex rv h k
  unfold max2D at h
  split at h
  · obtain ⟨v, u, rfl, r1, r2⟩ := rv.two
    cases r1; cases r2
    exact ⟨_, _, rfl, k _ h _ F H ex (.int _)⟩
  · exact h.elim
theorem de_min2 {p : Pos} (hc : X.calm = true) (hg : Gl X "min") (hm : X.mg "min" = none) (ha : DA X c [a, b] ml) (he : starEach [a, b] X.env = (false, eval a X.env) :: starEach [b] X.env := by rfl) (hpl : (backTo pos (starEach [b] X.env)).any (·.1) = false := by rfl) : DE X c (.Call (.Name "min" p) [a, b] [] pos) (dB min2D ml) :=
  de_callB (call_min2 hc) sv_min2 hg hm boot_min ha (by decide) (by decide) he hpl
theorem de_max2 {p : Pos} (hc : X.calm = true) (hg : Gl X "max") (hm : X.mg "max" = none) (ha : DA X c [a, b] ml) (he : starEach [a, b] X.env = (false, eval a X.env) :: starEach [b] X.env := by rfl) (hpl : (backTo pos (starEach [b] X.env)).any (·.1) = false := by rfl) : DE X c (.Call (.Name "max" p) [a, b] [] pos) (dB max2D ml) :=
  de_callB (call_max2 hc) sv_max2 hg hm boot_max ha (by decide) (by decide) he hpl
/-- all the items are ints (bools) -/
def intsOf : List D → Option (List Int)
  | [] => some []
  | .int i :: r => (intsOf r).map (i :: ·)
  | _ => none
theorem intsOf_eq : ∀ {ds : List D} {ns : List Int}, intsOf ds = some ns → ds = ns.map .int
  | [], _, h => by cases h; rfl
  | .int i :: r, ns, h => by
    unfold intsOf at h
    cases q : intsOf r with
    | none => rw [q] at h; cases h
    | some ms =>
      rw [q] at h
      cases h
      rw [intsOf_eq q]; rfl
  | .none :: r, _, h => by cases h
  | .bool _ :: r, _, h => by cases h
  | .str _ :: r, _, h => by cases h
  | .list _ :: r, _, h => by cases h
  | .tuple _ :: r, _, h => by cases h
  | .dict _ :: r, _, h => by cases h
theorem intsOf_map : ∀ ns : List Int, intsOf (ns.map .int) = some ns
  | [] => rfl
  | n :: ns => by
    show (intsOf (ns.map .int)).map (n :: ·) = _
    rw [intsOf_map ns]; rfl
def blsOf : List D → Option (List Bool)
  | [] => some []
  | .bool i :: r => (blsOf r).map (i :: ·)
  | _ => none
theorem blsOf_eq : ∀ {ds : List D} {ns : List Bool}, blsOf ds = some ns → ds = ns.map .bool
  | [], _, h => by cases h; rfl
  | .bool i :: r, ns, h => by
    unfold blsOf at h
    cases q : blsOf r with
    | none => rw [q] at h; cases h
    | some ms =>
      rw [q] at h
      cases h
      rw [blsOf_eq q]; rfl
  | .none :: r, _, h => by cases h
  | .int _ :: r, _, h => by cases h
  | .str _ :: r, _, h => by cases h
  | .list _ :: r, _, h => by cases h
  | .tuple _ :: r, _, h => by cases h
  | .dict _ :: r, _, h => by cases h
theorem blsOf_map : ∀ ns : List Bool, blsOf (ns.map .bool) = some ns
  | [] => rfl
  | n :: ns => by
    show (blsOf (ns.map .bool)).map (n :: ·) = _
    rw [blsOf_map ns]; rfl
/-- sum, all, any of a list -/
def sumD : DC := fun ds Q => match ds with | [.list xs] => (match intsOf xs with | some ns => Q (.int ns.sum) | none => False) | _ => False
def allD : DC := fun ds Q => match ds with | [.list xs] => (match blsOf xs with | some ns => Q (.bool (ns.all id)) | none => False) | _ => False
def anyD : DC := fun ds Q => match ds with | [.list xs] => (match blsOf xs with | some ns => Q (.bool (ns.any id)) | none => False) | _ => False
theorem sv_sum {K : PySem.W.Frag} : ServesC K c (rSum K) sumD := by
  intro F H vs ds R Q ex rv h k
  unfold sumD at h
  split at h
  · split at h
    · rename_i ns q
      obtain ⟨v, rfl, r1⟩ := rv.one
      obtain ⟨p, ys, rfl, g1, g2, g3⟩ := r1.lstI
      rw [intsOf_eq q] at g2
      have e := g2.ints_inv
      subst e
      exact ⟨p, ns, rfl, SqL.of (ex.fh _ _ g1), k _ h _ F H ex (.int _)⟩
    · exact h.elim
  · exact h.elim
theorem sv_all {K : PySem.W.Frag} : ServesC K c (rAll K) allD := by
  intro F H vs ds R Q ex rv h k
  unfold allD at h
  split at h
  · split at h
    · rename_i ns q
      obtain ⟨v, rfl, r1⟩ := rv.one
      obtain ⟨p, ys, rfl, g1, g2, g3⟩ := r1.lstI
      rw [blsOf_eq q] at g2
      have e := g2.bls_inv
      subst e
      exact ⟨p, ns, rfl, SqL.of (ex.fh _ _ g1), k _ h _ F H ex (.bl _)⟩
    · exact h.elim
  · exact h.elim
theorem sv_any {K : PySem.W.Frag} : ServesC K c (rAny K) anyD := by
  intro F H vs ds R Q ex rv h k
  unfold anyD at h
  split at h
  · split at h
    · rename_i ns q
      obtain ⟨v, rfl, r1⟩ := rv.one
      obtain ⟨p, ys, rfl, g1, g2, g3⟩ := r1.lstI
      rw [blsOf_eq q] at g2
      have e := g2.bls_inv
      subst e
      exact ⟨p, ns, rfl, SqL.of (ex.fh _ _ g1), k _ h _ F H ex (.bl _)⟩
    · exact h.elim
  · exact h.elim
theorem de_sum {p : Pos} (hc : X.calm = true) (hg : Gl X "sum") (hm : X.mg "sum" = none) (ha : DA X c [a] ml) (he : starEach [a] X.env = (false, eval a X.env) :: starEach [] X.env := by rfl) (hpl : (backTo pos (starEach [] X.env)).any (·.1) = false := by rfl) : DE X c (.Call (.Name "sum" p) [a] [] pos) (dB sumD ml) :=
  de_callB (cr_sum hc) sv_sum hg hm boot_sum ha (by decide) (by decide) he hpl
theorem de_all {p : Pos} (hc : X.calm = true) (hg : Gl X "all") (hm : X.mg "all" = none) (ha : DA X c [a] ml) (he : starEach [a] X.env = (false, eval a X.env) :: starEach [] X.env := by rfl) (hpl : (backTo pos (starEach [] X.env)).any (·.1) = false := by rfl) : DE X c (.Call (.Name "all" p) [a] [] pos) (dB allD ml) :=
  de_callB (cr_all hc) sv_all hg hm boot_all ha (by decide) (by decide) he hpl
theorem de_any {p : Pos} (hc : X.calm = true) (hg : Gl X "any") (hm : X.mg "any" = none) (ha : DA X c [a] ml) (he : starEach [a] X.env = (false, eval a X.env) :: starEach [] X.env := by rfl) (hpl : (backTo pos (starEach [] X.env)).any (·.1) = false := by rfl) : DE X c (.Call (.Name "any" p) [a] [] pos) (dB anyD ml) :=
  de_callB (cr_any hc) sv_any hg hm boot_any ha (by decide) (by decide) he hpl

def tyN : D → String
  | .none => "NoneType"
  | .bool _ => "bool"
  | .int _ => "int"
  | .str _ => "str"
  | .list _ => "list"
  | .tuple _ => "tuple"
  | .dict _ => "dict"
theorem Rep.ty {K : PySem.W.Frag} {F : Hp} {v : V} {d : D} (h : Rep K F v d) : TyX K F v (.type (tyN d)) := by
  cases h with
  | non => exact .base .non
  | bl b => exact .base (.bl b)
  | int i => exact .base (.int i)
  | str x => exact .base (.str x)
  | lst h1 _ _ => exact .base (.lst h1)
  | tup h1 _ _ =>
    rcases h1 with (h1 | ⟨o, h1⟩) | ⟨o, its, n, h1, h2, _⟩
    · exact .base (.tup h1)
    · exact .fTuple h1
    · exact .kTuple h1 h2
theorem TyX.mono {K : PySem.W.Frag} {F H : Hp} (hF : ∀ a o, F a = some o → H a = some o) {v : V} {t : Value} (h : TyX K F v t) : TyX K H v t := by
  cases h with
  | base b =>
    cases b with
    | non => exact .base .non
    | bl y => exact .base (.bl y)
    | int y => exact .base (.int y)
    | str y => exact .base (.str y)
    | flt y => exact .base (.flt y)
    | lst e => exact .base (.lst (hF _ _ e))
    | frz e => exact .base (.frz (hF _ _ e))
    | tup e => exact .base (.tup (hF _ _ e))
    | dK e => exact .base (.dK (hF _ _ e))
    | dT e => exact .base (.dT (hF _ _ e))
    | ins e cl ha hn htk hm => exact .base (.ins (hF _ _ e) cl ha hn htk hm)
  | byt b => exact .byt b
  | set e => exact .set (hF _ _ e)
  | kList e c => exact .kList e c
  | kTuple e c => exact .kTuple e c
  | kDict e c => exact .kDict e c
  | fTuple e => exact .fTuple (hF _ _ e)
  | fDict e => exact .fDict (hF _ _ e)
/-- the class T is one that f tells -/
def Tells (T : String) (f : D → Bool) : Prop := ∀ d, kitB (tyN d) T = some (f d)
def isIntD : D → Bool | .int _ => true | .bool _ => true | _ => false
def isBoolD : D → Bool | .bool _ => true | _ => false
def isStrD : D → Bool | .str _ => true | _ => false
def isTupD : D → Bool | .tuple _ => true | _ => false
def isLstD : D → Bool | .list _ => true | _ => false
theorem tells_int : Tells "int" isIntD
  | .none => (by decide +kernel : kitB "NoneType" "int" = some false)
  | .bool _ => (by decide +kernel : kitB "bool" "int" = some true)
  | .int _ => (by decide +kernel : kitB "int" "int" = some true)
  | .str _ => (by decide +kernel : kitB "str" "int" = some false)
  | .list _ => (by decide +kernel : kitB "list" "int" = some false)
  | .tuple _ => (by decide +kernel : kitB "tuple" "int" = some false)
  | .dict _ => (by decide +kernel : kitB "dict" "int" = some false)
theorem tells_bool : Tells "bool" isBoolD
  | .none => (by decide +kernel : kitB "NoneType" "bool" = some false)
  | .bool _ => (by decide +kernel : kitB "bool" "bool" = some true)
  | .int _ => (by decide +kernel : kitB "int" "bool" = some false)
  | .str _ => (by decide +kernel : kitB "str" "bool" = some false)
  | .list _ => (by decide +kernel : kitB "list" "bool" = some false)
  | .tuple _ => (by decide +kernel : kitB "tuple" "bool" = some false)
  | .dict _ => (by decide +kernel : kitB "dict" "bool" = some false)
theorem tells_str : Tells "str" isStrD
  | .none => (by decide +kernel : kitB "NoneType" "str" = some false)
  | .bool _ => (by decide +kernel : kitB "bool" "str" = some false)
  | .int _ => (by decide +kernel : kitB "int" "str" = some false)
  | .str _ => (by decide +kernel : kitB "str" "str" = some true)
  | .list _ => (by decide +kernel : kitB "list" "str" = some false)
  | .tuple _ => (by decide +kernel : kitB "tuple" "str" = some false)
  | .dict _ => (by decide +kernel : kitB "dict" "str" = some false)
theorem tells_tuple : Tells "tuple" isTupD
  | .none => (by decide +kernel : kitB "NoneType" "tuple" = some false)
  | .bool _ => (by decide +kernel : kitB "bool" "tuple" = some false)
  | .int _ => (by decide +kernel : kitB "int" "tuple" = some false)
  | .str _ => (by decide +kernel : kitB "str" "tuple" = some false)
  | .list _ => (by decide +kernel : kitB "list" "tuple" = some false)
  | .tuple _ => (by decide +kernel : kitB "tuple" "tuple" = some true)
  | .dict _ => (by decide +kernel : kitB "dict" "tuple" = some false)
theorem tells_list : Tells "list" isLstD
  | .none => (by decide +kernel : kitB "NoneType" "list" = some false)
  | .bool _ => (by decide +kernel : kitB "bool" "list" = some false)
  | .int _ => (by decide +kernel : kitB "int" "list" = some false)
  | .str _ => (by decide +kernel : kitB "str" "list" = some false)
  | .list _ => (by decide +kernel : kitB "list" "list" = some true)
  | .tuple _ => (by decide +kernel : kitB "tuple" "list" = some false)
  | .dict _ => (by decide +kernel : kitB "dict" "list" = some false)
def dIsi (f : D → Bool) (m : DTE) (en : En) (Q : D → Prop) : Prop := m en fun d => Q (.bool (f d))
theorem de_isi {x : Str} {T : String} {f : D → Bool} {p q : Pos} (ht : Tells T f) (hg : Gl X "isinstance") (hm : X.mg "isinstance" = none) (hgT : Gl X x) (hmT : X.mg x = none) (hvT : bootBuiltins x = some (.type T)) (ha : DE X c a m)
    (he : starEach [a, .Name x q] X.env = (false, eval a X.env) :: starEach [.Name x q] X.env := by rfl) (hpl : (backTo pos (starEach [.Name x q] X.env)).any (·.1) = false := by rfl) (hn : x ≠ "__name__" := by decide) (hdb : (x == ("__debug__" : Str)) = false := by decide)
    (he2 : starEach [.Name x q] X.env = (false, eval (.Name x q) X.env) :: starEach [] X.env := by rfl) :
    DE X c (.Call (.Name "isinstance" p) [a, .Name x q] [] pos) (dIsi f m) := by
  refine ⟨PE.imp (pe_callB call_isi hg hm boot_isinstance (pa_cons ha.run (pa_cons (pe_bltn (v := .ty T) hgT hmT hvT rfl hn hdb) pa_nil he2) he) (by decide) (by decide) he hpl) fun σ H Q h => ?_⟩
  obtain ⟨F, en, R, r, h, k⟩ := h
  refine ⟨F, en, _, r, h, fun d hd v F' H' x rv => ?_⟩
  exact ⟨v, .ty T, .type (tyN d), .type T, f d, rfl, .ty T, TyX.mono x.fh rv.ty, kit_ty (ht d), k _ hd _ F' H' x (.bl _)⟩

/-- what a def promises, by data -/
abbrev Spec := List D → (D → Prop) → Prop
def liftSp (K : PySem.W.Frag) (n : Nat) (sp : Lay.Spec) : Sp := fun vs H Q _ => ∃ F ds R, vs.length = n ∧ (∀ a o, F a = some o → H a = some o) ∧ Reps K F vs ds ∧ sp ds R ∧ ∀ d, R d → ∀ v F' H', Ext none F H F' H' → Rep K F' v d → Q v H'
def liftSpW (K : PySem.W.Frag) (n : Nat) (sp : Lay.Spec) : Sp := fun vs H Q _ => ∃ (p : Addr × Addr) (us : List V) (F : Hp) (ds : List D) (R : D → Prop), vs = .ref p.1 :: us ∧ us.length = n ∧ (∀ a o, F a = some o → H a = some o) ∧ F p.1 = none ∧ WOk H p ∧
  Reps K F us ds ∧ sp ds R ∧ ∀ d, R d → ∀ v F' H', Ext (some p) F H F' H' → Rep K F' v d → Q v H'
def dCall (sp : Lay.Spec) (ml : DTA) (en : En) (Q : D → Prop) : Prop := ml en fun ds => sp ds Q
theorem de_call {x : Str} {p : Pos} {k : Nat} {f : Addr} {fd : FuncData} {ps : List Str} {sp : Lay.Spec} (G : FnOk X.prog X.w X.K X.mg X.base CX0 k f fd ps (liftSp X.K ps.length sp)) (hr : Room k X.A) (hg : Gl X x) (hm : X.mg x = some (.ref f)) (hk : PySem.W.keepIn X.K (.ref f) = true) (hb : Binds X.K fd ps [])
    (ha : DA X c (e :: es) ml) (hl : (e :: es).length = ps.length := by rfl) (hdb : (x == ("__debug__" : Str)) = false := by decide) (he : starEach (e :: es) X.env = (false, eval e X.env) :: starEach es X.env := by rfl) (hpl : (backTo pos (starEach es X.env)).any (·.1) = false := by rfl) :
    DE X c (.Call (.Name x p) (e :: es) [] pos) (dCall sp ml) := by
  refine ⟨PE.imp (pe_call G hr hg hm hk hb .nil pass0 ha.run hdb he hpl) fun σ H Q h => ?_⟩
  obtain ⟨F, en, R, r, h, k⟩ := h
  refine ⟨F, en, _, r, h, fun ds hd vs F1 H1 x1 rv hn => ?_⟩
  show liftSp X.K ps.length sp (vs ++ []) H1 Q E0
  rw [List.append_nil]
  refine ⟨F1, ds, R, hn.trans hl, x1.fh, rv, hd, fun d hd v F' H' x rd => ?_⟩
  exact k d hd v F' H' (x1.trans (x.pure x1.wk)) rd
/-- f(w, ..): the source handed on -/
def dCallW (i : Nat) (sp : Lay.Spec) (ml : DTA) (en : En) (Q : D → Prop) : Prop := onWv (gt en i) (ml en fun ds => sp ds Q)
theorem de_callW {x y : Str} {i : Nat} {p py : Pos} {k : Nat} {f : Addr} {fd : FuncData} {ps : List Str} {sp : Lay.Spec} (G : FnOk X.prog X.w X.K X.mg X.base CX0 k f fd ps (liftSpW X.K (ps.length - 1) sp)) (hr : Room k X.A) (hg : Gl X x) (hm : X.mg x = some (.ref f)) (hk : PySem.W.keepIn X.K (.ref f) = true) (hb : Binds X.K fd ps [])
    (hN : X.N[i]? = some y) (hv : Vis X.env.scope y) (ha : DA X c es ml) (hl : es.length = ps.length - 1 := by rfl) (hdb : (x == ("__debug__" : Str)) = false := by decide) (he : starEach (.Name y py :: es) X.env = (false, eval (.Name y py) X.env) :: starEach es X.env := by rfl) (hpl : (backTo pos (starEach es X.env)).any (·.1) = false := by rfl)
    (hd : (y == ("__debug__" : Str)) = false := by decide) (hcd : (y == ("__classdict__" : Str)) = false := by decide) :
    DE X c (.Call (.Name x p) (.Name y py :: es) [] pos) (dCallW i sp ml) := by
  refine ⟨PE.imp (pe_call G hr hg hm hk hb .nil pass0 (pa_cons (pe_var hN hv hd hcd) ha.run he) hdb he hpl) fun σ H Q h => ?_⟩
  obtain ⟨F, en, R, r, h, k⟩ := h
  unfold dCallW onWv at h
  split at h
  · rename_i hgt
    obtain ⟨ov, e1, a, e2, da, e3⟩ := r.sl i _ (gt_get hgt (fun z => nomatch z))
    subst e2
    refine ⟨_, e1, F, en, _, r, h, fun ds hd vs F1 H1 x1 rv hn => ?_⟩
    show liftSpW X.K (ps.length - 1) sp ((V.ref a :: vs) ++ []) H1 Q E0
    rw [List.append_nil]
    refine ⟨(a, da), vs, F1, ds, R, rfl, hn.trans hl, x1.fh, (r.grow x1).wn _ e3, x1.wk _ e3, rv, hd, fun d hd v F' H' x rd => ?_⟩
    rw [← e3] at x
    exact k d hd v F' H' (x1.trans x) rd
  · exact h.elim
end
end Lay
namespace Lay
open PySem PySem.Spec L2
open PyProof.Rows hiding St

section
variable {X : Cx} {c : Ct} {e a b : Expr} {es : List Expr} {m ma mb : DTE} {ml : DTA} {mt mu : DTT} {pos : Pos}

abbrev DTG := D → En → (En → Prop) → Prop
abbrev DTGs := List D → En → (En → Prop) → Prop
/-- sl: the slots that the target stores -/
def liftG (K : PySem.W.Frag) (c : Ct) (sl : List Nat) (g : DTG) : TG := fun v σ H Q => ∃ F en d R, SR K c F σ H en ∧ Rep K F v d ∧ g d en R ∧ ∀ en' σ', R en' → SR K c F σ' H en' → (σ'.length = σ.length ∧ ∀ i, i ∉ sl → σ'[i]? = σ[i]?) → Q σ' H
def liftGs (K : PySem.W.Frag) (c : Ct) (sl : List Nat) (g : DTGs) : TGs := fun vs σ H Q => ∃ F en ds R, SR K c F σ H en ∧ Reps K F vs ds ∧ g ds en R ∧ ∀ en' σ', R en' → SR K c F σ' H en' → (σ'.length = σ.length ∧ ∀ i, i ∉ sl → σ'[i]? = σ[i]?) → Q σ' H
structure DG (X : Cx) (c : Ct) (tg : Expr) (sl : List Nat) (g : DTG) : Prop where
  run : PG X tg (liftG X.K c sl g)
structure DGs (X : Cx) (c : Ct) (ts : List Expr) (sl : List Nat) (g : DTGs) : Prop where
  run : PGs X ts (liftGs X.K c sl g)
theorem PG.imp {X : Cx} {e : Expr} {t t' : TG} (h : PG X e t) (k : ∀ v σ H Q, t' v σ H Q → t v σ H Q) : PG X e t' := ⟨fun pins s σ H v u Q I r q => h.run pins s σ H v u Q I r (k _ _ _ _ q)⟩
theorem PGs.imp {X : Cx} {e : List Expr} {t t' : TGs} (h : PGs X e t) (k : ∀ v σ H Q, t' v σ H Q → t v σ H Q) : PGs X e t' := ⟨fun pins s σ H v u Q I r q => h.run pins s σ H v u Q I r (k _ _ _ _ q)⟩
def gNm (i : Nat) (d : D) (en : En) (R : En → Prop) : Prop := R (en.set i (.val d))
theorem dg_name {i : Nat} {x : Str} (hN : X.N.Nodup) (hi : X.N[i]? = some x) (hx : Loc X.env.scope x) (hf : X.fn x = true ∨ X.env.scope.names.lookup x = some .local := by first | exact .inl rfl | exact .inr rfl | assumption) : DG X c (.Name x pos) [i] (gNm i) := by
  refine ⟨PG.imp (pg_name hN hi hx hf) fun v σ H Q h => ?_⟩
  obtain ⟨F, en, d, R, r, rv, h, k⟩ := h
  exact k _ _ h (r.set rv) ⟨List.length_set, fun j hj => List.getElem?_set_ne (fun z => hj (by simp [z]))⟩
def gNl (ds : List D) (en : En) (R : En → Prop) : Prop := match ds with | [] => R en | _ => False
def gCs (g : DTG) (gs : DTGs) (ds : List D) (en : En) (R : En → Prop) : Prop := match ds with | d :: r => g d en fun en' => gs r en' R | [] => False
theorem dgs_nil : DGs X c [] [] gNl := by
  refine ⟨PGs.imp pgs_nil fun v σ H Q h => ?_⟩
  obtain ⟨F, en, ds, R, r, rv, h, k⟩ := h
  cases ds with
  | nil => cases rv; exact ⟨rfl, k _ _ h r ⟨rfl, fun _ _ => rfl⟩⟩
  | cons _ _ => exact False.elim h
theorem dgs_cons {s1 s2 : List Nat} {g : DTG} {gs : DTGs} (h1 : DG X c e s1 g) (h2 : DGs X c es s2 gs) (hs : (assignEach (e :: es) X.env).map (·.2) = assign e X.env :: (assignEach es X.env).map (·.2) := by rfl) : DGs X c (e :: es) (s1 ++ s2) (gCs g gs) := by
  refine ⟨PGs.imp (pgs_cons h1.run h2.run hs) fun v σ H Q h => ?_⟩
  obtain ⟨F, en, ds, R, r, rv, h, k⟩ := h
  cases ds with
  | nil => exact False.elim h
  | cons d ds =>
    cases rv with
    | cons r1 r2 =>
      refine ⟨_, _, rfl, F, en, d, _, r, r1, h, fun en' σ' h' r' k1 => ?_⟩
      refine ⟨F, en', ds, R, r', r2, h', fun en2 σ2 h2 r2 k2 => k _ _ h2 r2 ⟨k2.1.trans k1.1, fun i hi => ?_⟩⟩
      rw [k2.2 i fun z => hi (by simp [z]), k1.2 i fun z => hi (by simp [z])]
def onTup (d : D) (K : List D → Prop) : Prop := match d with | .tuple ds => K ds | _ => False
def gTp (n : Nat) (gs : DTGs) (d : D) (en : En) (R : En → Prop) : Prop := onTup d fun ds => ds.length = n ∧ gs ds en R
theorem dg_tup {k : Nat} {gs : DTGs} {sl : List Nat} {n : Nat} (hc : X.calm = true) (h : DGs X c es sl gs) (hn : (assignEach es X.env).length = n := by rfl) (hst : (assignEach es X.env).findIdx? (·.1) = none := by rfl) : DG X c (.Tuple es k pos) sl (gTp n gs) := by
  refine ⟨PG.imp (pg_tup hc h.run hn hst) fun v σ H Q h => ?_⟩
  obtain ⟨F, en, d, R, r, rv, h, k⟩ := h
  cases d with
  | tuple ds =>
    obtain ⟨p, xs, rfl, g1, g2, g3⟩ := rv.tupI
    exact ⟨p, xs, rfl, sqT_mono r.fh g1, by rw [g2.len]; exact h.1, F, en, ds, R, r, g2, h.2, k⟩
  | _ => exact False.elim h

structure DWalk (K : PySem.W.Frag) (wo : Option (Addr × Addr)) (J : It) (F : Hp) (ds : List D) : Prop where
  go : ∀ (i : Nat) (d : D) F' H, (∀ a o, F a = some o → F' a = some o) → Ext wo F' H F' H → ds[i]? = some d → J.go i H
  yld : ∀ (i : Nat) (d : D) F' H x H', (∀ a o, F a = some o → F' a = some o) → Ext wo F' H F' H → ds[i]? = some d → J.yld i H x H' → ∃ F'', Ext wo F' H F'' H' ∧ Rep K F'' x d
  stop : ∀ F' H, (∀ a o, F a = some o → F' a = some o) → Ext wo F' H F' H → J.stop ds.length H
def liftI (K : PySem.W.Frag) (c : Ct) (z : Bool) (m : DTA) : TI := fun σ H R => ∃ F en Q, SR K c F σ H en ∧ m en Q ∧ ∀ ds, Q ds → ∀ J F' H', Ext c.wo F H F' H' → DWalk K c.wo J F' ds → (z = true → ds.length ≤ sizeLine) → R J H'
/-- z: the items are as many as a list may hold -/
structure DI (X : Cx) (c : Ct) (tg iter : Expr) (z : Bool) (m : DTA) : Prop where
  run : PI X tg iter (liftI X.K c z m)
theorem PI.imp {X : Cx} {tg e : Expr} {t t' : TI} (h : PI X tg e t) (k : ∀ σ H Q, t' σ H Q → t σ H Q) : PI X tg e t' := ⟨fun pins s σ H Q I q => h.run pins s σ H Q I (k _ _ _ q)⟩
theorem pi_seq {tg l : Expr} {tl : TE} (hl : PE X l tl) : PI X tg l (fun σ H R => tl σ H fun x H1 => ∃ a, x = .ref a ∧ (((∃ xs, SqL X.K H1 a xs) ∧ R (Itl X.K a) H1) ∨ ((∃ xs, SqT X.K H1 a xs) ∧ R (Itt X.K a) H1))) := by
  refine ⟨fun pins s σ H R I h => ?_⟩
  refine thn (hl.run pins s σ H _ I h) fun v s1 ⟨x, H1, I1, r1, q1⟩ => ?_
  obtain ⟨a, e, q⟩ := q1
  subst e
  cases r1
  rcases q with ⟨⟨xs, hq⟩, q⟩ | ⟨⟨xs, hq⟩, q⟩
  · obtain ⟨its, rv, p, hz⟩ := I1.list hq
    refine wpAny_pyIter_list p.isList ?_
    refine ⟨s1.heap.objs.size, [s1.heap.objs.size], _, _, H1, rfl, I1.kept (t' := s1.toks) fun b o e => Heap.get?_push_of_some _ e, turn_list a _, ⟨_, Heap.get?_push_size _ rfl, rfl, rfl⟩, fun b hb => ?_, q⟩
    have e : b = s1.heap.objs.size := by simpa using hb
    subst e
    exact I1.fpOk (Nat.le_refl _) (I1.hok.fresh (Nat.le_refl _))
  · obtain ⟨its, rv, p, hz⟩ := I1.tuple hq
    refine wpAny_pyIter_tuple (show s1.heap.IsTuple a its.toArray from p) ?_
    refine ⟨s1.heap.objs.size, [s1.heap.objs.size], _, _, H1, rfl, I1.kept (t' := s1.toks) fun b o e => Heap.get?_push_of_some _ e, turn_tuple a _, ⟨_, Heap.get?_push_size _ rfl, rfl, rfl⟩, fun b hb => ?_, q⟩
    have e : b = s1.heap.objs.size := by simpa using hb
    subst e
    exact I1.fpOk (Nat.le_refl _) (I1.hok.fresh (Nat.le_refl _))
theorem dwalk_list {K : PySem.W.Frag} {wo : Option (Addr × Addr)} {F : Hp} {p : Addr} {xs : List V} {ds : List D} (h : F p = some (.lst xs)) (r : Reps K F xs ds) : DWalk K wo (Itl K p) F ds where
  go := fun i d F' H hF x e => by
    obtain ⟨v, h1, h2⟩ := r.get e
    exact ⟨xs, v, SqL.of (x.fh _ _ (hF _ _ h)), h1⟩
  yld := fun i d F' H x H' hF ex e y => by
    obtain ⟨e1, y⟩ := y
    subst e1
    obtain ⟨v, h1, h2⟩ := r.get e
    have q := y xs (SqL.of (ex.fh _ _ (hF _ _ h)))
    rw [h1] at q
    cases q
    exact ⟨F', ex, Rep.mono hF _ _ h2⟩
  stop := fun F' H hF x => ⟨xs, SqL.of (x.fh _ _ (hF _ _ h)), Nat.le_of_eq r.len⟩
theorem dwalk_tup {K : PySem.W.Frag} {wo : Option (Addr × Addr)} {F : Hp} {p : Addr} {xs : List V} {ds : List D} (h : SqT K F p xs) (r : Reps K F xs ds) : DWalk K wo (Itt K p) F ds where
  go := fun i d F' H hF x e => by
    obtain ⟨v, h1, h2⟩ := r.get e
    exact ⟨xs, v, sqT_mono x.fh (sqT_mono hF h), h1⟩
  yld := fun i d F' H x H' hF ex e y => by
    obtain ⟨e1, y⟩ := y
    subst e1
    obtain ⟨v, h1, h2⟩ := r.get e
    have q := y xs (sqT_mono ex.fh (sqT_mono hF h))
    rw [h1] at q
    cases q
    exact ⟨F', ex, Rep.mono hF _ _ h2⟩
  stop := fun F' H hF x => ⟨xs, sqT_mono x.fh (sqT_mono hF h), Nat.le_of_eq r.len⟩
def onItems (d : D) (Q : List D → Prop) : Prop := match itemsD d with | some ds => Q ds | none => False
def dItems (m : DTE) (en : En) (Q : List D → Prop) : Prop := m en fun d => onItems d Q
theorem di_seq {tg l : Expr} (h : DE X c l m) : DI X c tg l true (dItems m) := by
  refine ⟨PI.imp (pi_seq h.run) fun σ H Q h => ?_⟩
  obtain ⟨F, en, R, r, h, k⟩ := h
  refine ⟨F, en, _, r, h, fun d hd v F' H' x rv => ?_⟩
  cases d with
  | list ds =>
    obtain ⟨p, xs, rfl, g1, g2, g3⟩ := rv.lstI
    exact ⟨p, rfl, .inl ⟨⟨xs, SqL.of (x.fh _ _ g1)⟩, k ds hd _ F' H' x (dwalk_list g1 g2) fun _ => g3⟩⟩
  | tuple ds =>
    obtain ⟨p, xs, rfl, g1, g2, g3⟩ := rv.tupI
    exact ⟨p, rfl, .inr ⟨⟨xs, sqT_mono x.fh g1⟩, k ds hd _ F' H' x (dwalk_tup g1 g2) fun _ => g3⟩⟩
  | _ => exact False.elim hd
def rangeD (lo : Int) (n : Nat) : List D := (List.range n).map fun (i : Nat) => .int (lo + i)
theorem rangeD_get {lo : Int} {n i : Nat} {d : D} (h : (rangeD lo n)[i]? = some d) : i < n ∧ d = .int (lo + i) := by
  unfold rangeD at h
  rw [List.getElem?_map] at h
  cases q : (List.range n)[i]? with
  | none => rw [q] at h; cases h
  | some j =>
    obtain ⟨h1, h2⟩ := List.getElem?_eq_some_iff.mp q
    rw [List.getElem_range] at h2
    rw [q] at h
    subst h2
    exact ⟨by simpa using h1, (Option.some.inj h).symm⟩
theorem rangeD_length (lo : Int) (n : Nat) : (rangeD lo n).length = n := by unfold rangeD; simp
theorem dwalk_range {K : PySem.W.Frag} {wo : Option (Addr × Addr)} {F : Hp} {lo : Int} {n : Nat} : DWalk K wo (Itr lo n) F (rangeD lo n) where
  go := fun i d F' H hF x e => (rangeD_get e).1
  yld := fun i d F' H x H' hF ex e y => by
    obtain ⟨e1, y⟩ := y
    subst e1
    obtain ⟨h1, h2⟩ := rangeD_get e
    subst h2
    subst y
    exact ⟨F', ex, .int _⟩
  stop := fun F' H hF x => by rw [rangeD_length]; exact Nat.le_refl _
def rng1D (ds : List D) (Q : List D → Prop) : Prop := match ds with | [.int j] => (-(2 ^ 62) ≤ j ∧ j < 2 ^ 62) ∧ Q (rangeD 0 j.toNat) | _ => False
def rng2D (ds : List D) (Q : List D → Prop) : Prop := match ds with | [.int i, .int j] => (-(2 ^ 62) ≤ i ∧ i < 2 ^ 62 ∧ -(2 ^ 62) ≤ j ∧ j < 2 ^ 62) ∧ Q (rangeD i (j - i).toNat) | _ => False
def dRng1 (ml : DTA) (en : En) (Q : List D → Prop) : Prop := ml en fun ds => rng1D ds Q
def dRng2 (ml : DTA) (en : En) (Q : List D → Prop) : Prop := ml en fun ds => rng2D ds Q
theorem di_range1 {tg : Expr} {p : Pos} (hg : Gl X "range") (hm : X.mg "range" = none) (ha : DA X c [a] ml) (hs : starEach [a] X.env = [(false, eval a X.env)] := by rfl) : DI X c tg (.Call (.Name "range" p) [a] [] pos) false (dRng1 ml) := by
  refine ⟨PI.imp (pi_range1 hg hm ha.run hs) fun σ H Q h => ?_⟩
  obtain ⟨F, en, R, r, h, k⟩ := h
  refine ⟨F, en, _, r, h, fun ds hd vs F' H' x rv _ => ?_⟩
  unfold rng1D at hd
  split at hd
  · obtain ⟨v, rfl, r1⟩ := rv.one
    cases r1
    exact ⟨_, rfl, hd.1.1, hd.1.2, k _ hd.2 _ F' H' x dwalk_range (fun z => nomatch z)⟩
  · exact hd.elim
theorem di_range2 {tg : Expr} {p : Pos} (hg : Gl X "range") (hm : X.mg "range" = none) (ha : DA X c [a, b] ml) (hs : starEach [a, b] X.env = [(false, eval a X.env), (false, eval b X.env)] := by rfl) (hs2 : starEach [b] X.env = [(false, eval b X.env)] := by rfl) : DI X c tg (.Call (.Name "range" p) [a, b] [] pos) false (dRng2 ml) := by
  refine ⟨PI.imp (pi_range2 hg hm ha.run hs hs2) fun σ H Q h => ?_⟩
  obtain ⟨F, en, R, r, h, k⟩ := h
  refine ⟨F, en, _, r, h, fun ds hd vs F' H' x rv _ => ?_⟩
  unfold rng2D at hd
  split at hd
  · obtain ⟨v, u, rfl, r1, r2⟩ := rv.two
    cases r1; cases r2
    exact ⟨_, _, rfl, hd.1, k _ hd.2 _ F' H' x dwalk_range (fun z => nomatch z)⟩
  · exact hd.elim

def wipeE (en : En) : List Nat → En
  | [] => en
  | v :: vs => (wipeE en vs).set v .un
theorem SR.wipe {K : PySem.W.Frag} {F H : Hp} {σ : St} {en : En} (r : SR K c F σ H en) : ∀ vs : List Nat, SR K c F (L2.wipe σ vs) H (wipeE en vs)
  | [] => r
  | v :: vs => (SR.wipe r vs).setS (ov := none) rfl trivial
theorem wipe_get {σ : St} : ∀ {vs : List Nat} {i : Nat}, (L2.wipe σ vs)[i]? = if i ∈ vs then (if i < σ.length then some none else none) else σ[i]?
  | [], i => by simp [L2.wipe]
  | v :: vs, i => by
    show ((L2.wipe σ vs).set v none)[i]? = _
    by_cases q : v = i
    · subst q
      by_cases hl : v < σ.length
      · rw [List.getElem?_set_self (by rw [wipe_length]; exact hl)]
        simp [hl]
      · rw [List.getElem?_eq_none (by rw [List.length_set, wipe_length]; omega)]
        simp [hl]
    · rw [List.getElem?_set_ne q, wipe_get]
      have e : (i ∈ v :: vs) ↔ i ∈ vs := ⟨fun h => by
        rcases List.mem_cons.mp h with h | h
        · exact absurd h.symm q
        · exact h, List.mem_cons_of_mem _⟩
      by_cases h : i ∈ vs
      · rw [if_pos h, if_pos (e.mpr h)]
      · rw [if_neg h, if_neg fun z => h (e.mp z)]
theorem wipe_same {σ σ' : St} {vs : List Nat} (hl : σ'.length = σ.length) (h : ∀ i, i ∉ vs → σ'[i]? = (L2.wipe σ vs)[i]?) : L2.wipe σ' vs = L2.wipe σ vs := by
  refine List.ext_getElem? fun i => ?_
  by_cases q : i ∈ vs
  · rw [wipe_get, wipe_get, if_pos q, if_pos q, hl]
  · rw [wipe_get, if_neg q, h i q]
/-- the tests of a comprehension -/
structure DTs (X : Cx) (c : Ct) (ifs : List Expr) (m : DTT) : Prop where
  run : PTs X ifs (liftT X.K c m)
def dYes (_x : En) (Q : Bool → Prop) : Prop := Q true
theorem dts_nil : DTs X c [] dYes := by
  refine ⟨⟨fun pins s σ H Q I h => pts_nil.run pins s σ H Q I ?_⟩⟩
  obtain ⟨F, en, R, r, h, k⟩ := h
  exact k _ h F H r.ext.self
theorem dts_one (h : DT X c e mt) : DTs X c [e] mt := ⟨pts_one h.run⟩
/-- a comprehension over known items -/
def LcW (z : Bool) (g : DTG) (mt : DTT) (me : DTE) (vs : List Nat) (ds : List D) (en : En) (Q : D → Prop) : Prop := (z = false → ds.length ≤ sizeLine) ∧ ∃ W : Nat → List D → Prop, W 0 [] ∧
  (∀ i d acc, ds[i]? = some d → acc.length ≤ i → W i acc → g d (wipeE en vs) fun en' => mt en' fun b => Cnd b (me en' fun y => W (i + 1) (acc ++ [y])) (W (i + 1) acc)) ∧ ∀ acc, acc.length ≤ ds.length → W ds.length acc → Q (.list acc)
def dLc (z : Bool) (mi : DTA) (g : DTG) (mt : DTT) (me : DTE) (vs : List Nat) (en : En) (Q : D → Prop) : Prop := mi en fun ds => LcW z g mt me vs ds en Q
theorem lift_lc {K : PySem.W.Frag} {z : Bool} {mi : DTA} {g : DTG} {mt : DTT} {me : DTE} {vs sl : List Nat} (hsl : ∀ i ∈ sl, i ∈ vs) {σ : St} {H : Hp} {Q : VK} (h : liftE K c (dLc z mi g mt me vs) σ H Q) :
    tLc (liftI K c z mi) (liftG K c sl g) (liftT K c mt) (liftE K c me) vs σ H Q := by
  obtain ⟨F, en, R, r, h, k⟩ := h
  refine ⟨F, en, _, r, h, fun ds hd J F1 H1 x1 w hz => ?_⟩
  intro D1 hD
  obtain ⟨hlen, W, w0, turn, fin⟩ := hd
  have hl : ds.length ≤ sizeLine := by
    cases z with
    | true => exact hz rfl
    | false => exact hlen rfl
  have fD : F1 D1 = none := by
    cases q : F1 D1 with
    | none => rfl
    | some u => rw [x1.fh _ _ q] at hD; cases hD
  refine ⟨fun i m Hc => m = ds.length - i ∧ i ≤ ds.length ∧ ∃ Fc acc vacc, Ext c.wo F1 H1 Fc Hc ∧ Hc D1 = some (.lst vacc) ∧ Fc D1 = none ∧ Reps K Fc vacc acc ∧ acc.length ≤ i ∧ W i acc,
    ⟨ds.length, by simp, Nat.zero_le _, F1, [], [], x1.self.poke hD fD (x1.wne hD), upd_same, fD, .nil, Nat.le_refl _, w0⟩, ?_⟩
  rintro i m Hc ⟨rfl, hi, Fc, acc, vacc, xc, hc, fc, rc, hacc, wc⟩
  by_cases hlt : i < ds.length
  · have ed : ds[i]? = some ds[i] := List.getElem?_eq_getElem hlt
    refine .inr ⟨w.go i _ Fc Hc xc.ff xc.self ed, fun H' => ∃ Fc acc vacc, Ext c.wo F1 H1 Fc H' ∧ H' D1 = some (.lst vacc) ∧ Fc D1 = none ∧ Reps K Fc vacc acc ∧ acc.length ≤ i + 1 ∧ W (i + 1) acc, fun H' h' => ⟨ds.length - (i + 1), by omega, rfl, hlt, h'⟩, fun x H' y => ?_⟩
    obtain ⟨F2, x2, rx⟩ := w.yld i _ Fc Hc x H' xc.ff xc.self ed y
    have nD : ∀ {F3 H3 : Hp}, Ext c.wo Fc Hc F3 H3 → H3 D1 = some (.lst vacc) ∧ F3 D1 = none := fun {F3 H3} x3 => by
      refine ⟨x3.hh _ _ hc fun ⟨d, q⟩ => (x1.wne hD _ q).1 rfl, ?_⟩
      cases q : F3 D1 with
      | none => rfl
      | some u =>
        have := x3.nw _ _ q fc
        rw [hc] at this; rcases this with this | ⟨_, this⟩ <;> cases this
    have r0 := ((r.grow x1).grow xc).grow x2
    refine ⟨F2, wipeE en vs, ds[i], _, r0.wipe vs, rx, turn i _ acc ed hacc wc, fun en' σ' h' r' k' => ?_⟩
    refine ⟨wipe_same (k'.1.trans (wipe_length _ _)) fun j hj => k'.2 j fun z => hj (hsl j z), F2, en', _, r', h', fun bb hb F3 H3 x3 => ?_⟩
    cases bb with
    | true =>
      refine ⟨F3, en', _, r'.grow x3, hb, fun yd hy yv F4 H4 x4 ry => ?_⟩
      have xx := x2.trans (x3.trans x4)
      obtain ⟨n1, n2⟩ := nD xx
      refine ⟨vacc, n1, by rw [rc.len]; omega, F4, acc ++ [yd], vacc ++ [yv], (xc.trans xx).poke hD n2 (x1.wne hD), upd_same, n2, (Reps.mono xx.ff _ _ rc).append (.cons ry .nil), by rw [List.length_append, List.length_singleton]; omega, hy⟩
    | false =>
      have xx := x2.trans x3
      obtain ⟨n1, n2⟩ := nD xx
      exact ⟨F3, acc, vacc, xc.trans xx, n1, n2, Reps.mono xx.ff _ _ rc, by omega, hb⟩
  · have e : i = ds.length := by omega
    subst e
    refine .inl ⟨w.stop Fc Hc xc.ff xc.self, ?_⟩
    have hD0 : H D1 = none := x1.back hD
    refine k _ (fin acc hacc wc) _ (upd Fc D1 (.lst vacc)) Hc ?_ (.lst upd_same (Reps.mono (fun b o q => by rw [upd_ne (ne_of_none q fc)]; exact q) _ _ rc) (Nat.le_trans hacc hl))
    have x := x1.trans xc
    refine ⟨fun b o q => by rw [upd_ne (ne_of_none (x.ff b o q) fc)]; exact x.ff b o q, fun b o q => ?_, x.hh, fun b o q n => ?_, x.wk⟩
    · by_cases zz : b = D1
      · subst zz; rw [upd_same] at q; cases q; exact hc
      · rw [upd_ne zz] at q; exact x.fh b o q
    · by_cases zz : b = D1
      · subst zz; exact .inl hD0
      · rw [upd_ne zz] at q; exact x.nw b o q n
end
end Lay
namespace Lay
open PySem PySem.Spec L2
open PyProof.Rows hiding St

section
variable {X : Cx} {c : Ct} {e a b : Expr} {es : List Expr} {m ma mb : DTE} {ml : DTA} {mt mu : DTT} {pos : Pos}
theorem de_lc {elt tg iter : Expr} {ifs : List Expr} {scope : Scope} {own : List (Str × Nat)} {sl : List Nat} {z : Bool} {mi : DTA} {g : DTG} {me : DTE} (hc : X.calm = true) (hN : X.N.Nodup) (hi : DI X c tg iter z mi) (ok : BlkOk X.N X.env.scope scope own)
    (hg : ∀ (s : Shared) (H : Hp) (C : Addr) (cl : List (Str × Addr)) (fp : List Addr), DG (X.blk s H scope (compEnvC scope cl C X.env) fp) c tg sl g) (ht : ∀ (s : Shared) (H : Hp) (C : Addr) (cl : List (Str × Addr)) (fp : List Addr), DTs (X.blk s H scope (compEnvC scope cl C X.env) fp) c ifs mt)
    (he : ∀ (s : Shared) (H : Hp) (C : Addr) (cl : List (Str × Addr)) (fp : List Addr), DE (X.blk s H scope (compEnvC scope cl C X.env) fp) c elt me) (hsl : ∀ i ∈ sl, i ∈ own.map (·.2) := by decide) (hs : ∀ x, foldedSetIterable iter X.env x = pure x := by intro _; rfl) :
    DE X c (.ListComp elt [⟨tg, iter, ifs, 0⟩] scope pos) (dLc z mi g mt me (own.map (·.2))) :=
  ⟨PE.imp (pe_lc hc hN hi.run ok (fun s H C cl fp => (hg s H C cl fp).run) (fun s H C cl fp => (ht s H C cl fp).run) (fun s H C cl fp => (he s H C cl fp).run) hs) fun _ _ _ h => lift_lc hsl h⟩

structure DEnds where
  nx : En → Prop
  rt : D → Prop
  bk : En → Prop := fun _ => False
  ct : En → Prop := fun _ => False
abbrev DTS := DEnds → En → Prop
def Sub (F F' : Hp) : Prop := ∀ a o, F a = some o → F' a = some o
theorem Sub.refl {F : Hp} : Sub F F := fun _ _ e => e
theorem Sub.trans {F F1 F2 : Hp} (a : Sub F F1) (b : Sub F1 F2) : Sub F F2 := fun x o e => b x o (a x o e)
/-- what is wanted behind, by data, serves what is wanted by the heap -/
structure EndsOk (K : PySem.W.Frag) (c : Ct) (F : Hp) (R : DEnds) (D : Ends) : Prop where
  nx : ∀ en' σ' F' H', R.nx en' → SR K c F' σ' H' en' → Sub F F' → D.nx σ' H'
  rt : ∀ d v F' H', R.rt d → Ext c.wo c.F_0 c.H_0 F' H' → Rep K F' v d → D.rt v H'
  bk : ∀ en' σ' F' H', R.bk en' → SR K c F' σ' H' en' → Sub F F' → D.bk σ' H'
  ct : ∀ en' σ' F' H', R.ct en' → SR K c F' σ' H' en' → Sub F F' → D.ct σ' H'
theorem EndsOk.later {K : PySem.W.Frag} {F F1 : Hp} {R : DEnds} {D : Ends} (h : EndsOk K c F R D) (s : Sub F F1) : EndsOk K c F1 R D :=
  ⟨fun en σ F' H' a b k => h.nx en σ F' H' a b (s.trans k), h.rt, fun en σ F' H' a b k => h.bk en σ F' H' a b (s.trans k), fun en σ F' H' a b k => h.ct en σ F' H' a b (s.trans k)⟩
def liftS (K : PySem.W.Frag) (c : Ct) (m : DTS) : TS := fun D σ H => ∃ F en R, SR K c F σ H en ∧ m R en ∧ EndsOk K c F R D
structure DS (X : Cx) (c : Ct) (st : Stmt) (m : DTS) : Prop where
  run : PS X st (liftS X.K c m)
structure DSs (X : Cx) (c : Ct) (st : List Stmt) (m : DTS) : Prop where
  run : PSs X st (liftS X.K c m)
theorem PS.imp {X : Cx} {e : Stmt} {t t' : TS} (h : PS X e t) (k : ∀ D σ H, t' D σ H → t D σ H) : PS X e t' := ⟨fun pins s σ H D I q => h.run pins s σ H D I (k _ _ _ q)⟩
theorem PSs.imp {X : Cx} {e : List Stmt} {t t' : TS} (h : PSs X e t) (k : ∀ D σ H, t' D σ H → t D σ H) : PSs X e t' := ⟨fun pins s σ H D I q => h.run pins s σ H D I (k _ _ _ q)⟩
variable {st : Stmt} {sts : List Stmt} {s1 s2 : DTS}
def dSkip (R : DEnds) (en : En) : Prop := R.nx en
/-- the rest of a block -/
def Then (s2 : DTS) (R : DEnds) (en : En) : Prop := s2 R en
def dSeq (s1 s2 : DTS) (R : DEnds) (en : En) : Prop := s1 { R with nx := Then s2 R } en
theorem dss_nil : DSs X c [] dSkip := ⟨PSs.imp pss_nil fun D σ H ⟨F, en, R, r, h, k⟩ => k.nx _ _ F H h r .refl⟩
theorem dss_cons (h1 : DS X c st s1) (h2 : DSs X c sts s2) : DSs X c (st :: sts) (dSeq s1 s2) := by
  refine ⟨PSs.imp (pss_cons h1.run h2.run) fun D σ H h => ?_⟩
  obtain ⟨F, en, R, r, h, k⟩ := h
  exact ⟨F, en, _, r, h, fun en' σ' F' H' h' r' s' => ⟨F', en', R, r', h', k.later s'⟩, k.rt, k.bk, k.ct⟩
theorem dss_one (h1 : DS X c st s1) : DSs X c [st] s1 := ⟨pss_one h1.run⟩
def dPass (R : DEnds) (en : En) : Prop := R.nx en
def dBreak (R : DEnds) (en : En) : Prop := R.bk en
def dCont (R : DEnds) (en : En) : Prop := R.ct en
theorem ds_pass : DS X c (.Pass pos) dPass := ⟨PS.imp ps_pass fun D σ H ⟨F, en, R, r, h, k⟩ => k.nx _ _ F H h r .refl⟩
theorem ds_break : DS X c (.Break pos) dBreak := ⟨PS.imp ps_break fun D σ H ⟨F, en, R, r, h, k⟩ => k.bk _ _ F H h r .refl⟩
theorem ds_continue : DS X c (.Continue pos) dCont := ⟨PS.imp ps_continue fun D σ H ⟨F, en, R, r, h, k⟩ => k.ct _ _ F H h r .refl⟩
def dRet (m : DTE) (R : DEnds) (en : En) : Prop := m en R.rt
theorem ds_ret (h : DE X c e m) : DS X c (.Return (some e) pos) (dRet m) := by
  refine ⟨PS.imp (ps_ret h.run) fun D σ H h => ?_⟩
  obtain ⟨F, en, R, r, h, k⟩ := h
  exact ⟨F, en, _, r, h, fun d hd v F' H' x rv => k.rt d v F' H' hd (r.ext.trans x) rv⟩
def dRetN (R : DEnds) (_x : En) : Prop := R.rt .none
theorem ds_retN : DS X c (.Return none pos) dRetN := ⟨PS.imp ps_retN fun D σ H ⟨F, en, R, r, h, k⟩ => k.rt _ _ F H h r.ext .non⟩
/-- an expression whose value is dropped -/
def dDrop (m : DTE) (R : DEnds) (en : En) : Prop := m en fun _ => R.nx en
theorem ds_expr (h : DE X c e m) (hs : swapsWith e none pos.line X.env = pure false := by rfl) : DS X c (.Expr e pos) (dDrop m) := by
  refine ⟨PS.imp (ps_expr h.run hs) fun D σ H h => ?_⟩
  obtain ⟨F, en, R, r, h, k⟩ := h
  exact ⟨F, en, _, r, h, fun d hd v F' H' x rv => k.nx en σ F' H' hd (r.grow x) x.ff⟩
def dCond (mt : DTT) (s1 s2 : DTS) (R : DEnds) (en : En) : Prop := mt en fun b => Cnd b (s1 R en) (s2 R en)
theorem ds_if {st1 st2 : List Stmt} (ht : DT X c e mt) (h1 : DSs X c st1 s1) (h2 : DSs X c st2 s2) : DS X c (.If e st1 st2 pos) (dCond mt s1 s2) := by
  refine ⟨PS.imp (ps_if ht.run h1.run h2.run) fun D σ H h => ?_⟩
  obtain ⟨F, en, R, r, h, k⟩ := h
  refine ⟨F, en, _, r, h, fun i hd F' H' x => ?_⟩
  cases i with
  | false => exact ⟨F', en, R, r.grow x, hd, k.later x.ff⟩
  | true => exact ⟨F', en, R, r.grow x, hd, k.later x.ff⟩
/-- an owned list becomes a value -/
def frz1 (s : Sl) (K : List D → Prop) (L : Prop) : Prop := match s with | .own xs => K xs | _ => L
def dFrz (i : Nat) (m : DTS) (R : DEnds) (en : En) : Prop := frz1 (gt en i) (fun xs => m R (en.set i (.val (.list xs)))) (m R en)
theorem lift_frz {K : PySem.W.Frag} {i : Nat} {m : DTS} {D : Ends} {σ : St} {H : Hp} (h : liftS K c (dFrz i m) D σ H) : liftS K c m D σ H := by
  obtain ⟨F, en, R, r, h, k⟩ := h
  unfold dFrz frz1 at h
  split at h
  · rename_i xs hg
    obtain ⟨F', x, s, r'⟩ := r.freeze (gt_get hg (fun z => nomatch z))
    exact ⟨F', _, R, r', h, k.later s⟩
  · exact ⟨F, en, R, r, h, k⟩
theorem ds_frz (i : Nat) (h : DS X c st s1) : DS X c st (dFrz i s1) := ⟨PS.imp h.run fun _ _ _ q => lift_frz q⟩
theorem dss_frz (i : Nat) (h : DSs X c sts s1) : DSs X c sts (dFrz i s1) := ⟨PSs.imp h.run fun _ _ _ q => lift_frz q⟩
/-- target = e -/
def dAsg (m : DTE) (g : DTG) (R : DEnds) (en : En) : Prop := m en fun d => g d en R.nx
theorem lift_asg {K : PySem.W.Frag} {sl : List Nat} {g : DTG} {D : Ends} {σ : St} {H : Hp} (h : liftS K c (dAsg m g) D σ H) : tAsg (liftE K c m) (liftG K c sl g) D σ H := by
  obtain ⟨F, en, R, r, h, k⟩ := h
  refine ⟨F, en, _, r, h, fun d hd v F' H' x rv => ?_⟩
  exact ⟨F', en, d, _, r.grow x, rv, hd, fun en' σ' h' r' _ => k.nx en' σ' F' H' h' r' x.ff⟩
theorem ds_asg {tg : Expr} {sl : List Nat} {g : DTG} (he : DE X c e m) (hg : DG X c tg sl g) (hs : swapsWithSole [tg] e pos.line X.env = pure false := by rfl) (hw : swappedStores [tg] e X.env = pure none := by rfl)
    (h1 : (assignEach [tg] X.env).map (·.2) = [assign tg X.env] := by rfl) : DS X c (.Assign [tg] e pos) (dAsg m g) :=
  ⟨PS.imp (ps_asg he.run hg.run hs hw h1) fun _ _ _ h => lift_asg h⟩
theorem ds_set {i : Nat} {x : Str} {pos' : Pos} (hN : X.N.Nodup) (hi : X.N[i]? = some x) (hx : Loc X.env.scope x) (he : DE X c e m) (hs : swapsWith e (some (.Name x pos')) pos.line X.env = pure false := by rfl) (hf : X.fn x = true ∨ X.env.scope.names.lookup x = some .local := by first | exact .inl rfl | exact .inr rfl | assumption) :
    DS X c (.Assign [.Name x pos'] e pos) (dAsg m (gNm i)) := by
  refine ⟨PS.imp (ps_set (i := i) hN hi hx he.run hs hf) fun D σ H h => ?_⟩
  obtain ⟨F, en, R, r, h, k⟩ := h
  refine ⟨F, en, _, r, h, fun d hd v F' H' x rv => ?_⟩
  exact k.nx _ _ F' H' hd ((r.grow x).set rv) x.ff
/-- x = [..] : the def's own list -/
def dOwn (i : Nat) (ml : DTA) (R : DEnds) (en : En) : Prop := ml en fun ds => R.nx (en.set i (.own ds))
theorem ds_own {i : Nat} {x : Str} {pos' : Pos} (hN : X.N.Nodup) (hi : X.N[i]? = some x) (hx : Loc X.env.scope x) (ha : DA X c es ml) (hz : es.length ≤ sizeLine := by decide) (hs : swapsWith (.List es pos) (some (.Name x pos')) pos.line X.env = pure false := by rfl) (hf : X.fn x = true ∨ X.env.scope.names.lookup x = some .local := by first | exact .inl rfl | exact .inr rfl | assumption) {spos : Pos} (hs' : swapsWith (.List es pos) (some (.Name x pos')) spos.line X.env = pure false := by rfl) :
    DS X c (.Assign [.Name x pos'] (.List es pos) spos) (dOwn i ml) := by
  refine ⟨PS.imp (ps_set (i := i) hN hi hx (pe_lst ha.run) hs' hf) fun D σ H h => ?_⟩
  obtain ⟨F, en, R, r, h, k⟩ := h
  refine ⟨F, en, _, r, h, fun ds hd vs F' H' x rv hn => ⟨by rw [hn]; exact hz, fun p hp => ?_⟩⟩
  exact k.nx _ _ F' _ hd ((r.grow x).setO hp ⟨p, vs, rfl, upd_same, rv, by rw [← rv.len, hn]; exact hz⟩) x.ff
/-- x = list(e) : the def's own copy -/
def seq1 (ds : List D) (Q : List D → Prop) : Prop := match ds with | [.list xs] => Q xs | [.tuple xs] => Q xs | _ => False
def dOwnL (i : Nat) (ml : DTA) (R : DEnds) (en : En) : Prop := ml en fun ds => seq1 ds fun xs => R.nx (en.set i (.own xs))
theorem ds_ownL {i : Nat} {x : Str} {p pos' spos : Pos} (hg : Gl X "list") (hm : X.mg "list" = none) (hN : X.N.Nodup) (hi : X.N[i]? = some x) (hx : Loc X.env.scope x) (ha : DA X c [a] ml) (hs : swapsWith (.Call (.Name "list" p) [a] [] pos) (some (.Name x pos')) spos.line X.env = pure false := by rfl)
    (he : starEach [a] X.env = (false, eval a X.env) :: starEach [] X.env := by rfl) (hpl : (backTo pos (starEach [] X.env)).any (·.1) = false := by rfl) (hf : X.fn x = true ∨ X.env.scope.names.lookup x = some .local := by first | exact .inl rfl | exact .inr rfl | assumption) :
    DS X c (.Assign [.Name x pos'] (.Call (.Name "list" p) [a] [] pos) spos) (dOwnL i ml) := by
  refine ⟨PS.imp (ps_set (i := i) hN hi hx (pe_callTy call_list_of hg hm boot_list ha.run (by decide) (by decide) he hpl) hs hf) fun D σ H h => ?_⟩
  obtain ⟨F, en, R, r, h, k⟩ := h
  refine ⟨F, en, _, r, h, fun ds hd vs F' H' x rv hn => ?_⟩
  unfold seq1 at hd
  split at hd
  · obtain ⟨v, rfl, r1⟩ := rv.one
    obtain ⟨p, ys, rfl, g1, g2, g3⟩ := r1.lstI
    refine ⟨p, ys, rfl, .inl (SqL.of (x.fh _ _ g1)), fun l hl => ?_⟩
    exact k.nx _ _ F' _ hd ((r.grow x).setO hl ⟨l, ys, rfl, upd_same, g2, g3⟩) x.ff
  · obtain ⟨v, rfl, r1⟩ := rv.one
    obtain ⟨p, ys, rfl, g1, g2, g3⟩ := r1.tupI
    refine ⟨p, ys, rfl, .inr (sqT_mono x.fh g1), fun l hl => ?_⟩
    exact k.nx _ _ F' _ hd ((r.grow x).setO hl ⟨l, ys, rfl, upd_same, g2, g3⟩) x.ff
  · exact hd.elim
/-- x = [.. for ..] on one line -/
theorem ds_setLc {i : Nat} {y : Str} {py : Pos} {elt tg iter : Expr} {ifs : List Expr} {scope : Scope} {own : List (Str × Nat)} {sl : List Nat} {z : Bool} {mi : DTA} {g : DTG} {me : DTE} {spos : Pos} (hc : X.calm = true) (hN : X.N.Nodup) (hy : X.N[i]? = some y) (hyl : X.env.scope.names.lookup y = some .local)
    (hsw : swapsWith (.ListComp elt [⟨tg, iter, ifs, 0⟩] scope pos) (some (.Name y py)) spos.line X.env = pure true) (hi : DI X c tg iter z mi) (ok : BlkOk X.N X.env.scope scope own)
    (hg : ∀ (s : Shared) (H : Hp) (C : Addr) (cl : List (Str × Addr)) (fp : List Addr), DG (X.blk s H scope (compEnvC scope cl C X.env) fp) c tg sl g) (ht : ∀ (s : Shared) (H : Hp) (C : Addr) (cl : List (Str × Addr)) (fp : List Addr), DTs (X.blk s H scope (compEnvC scope cl C X.env) fp) c ifs mt)
    (he : ∀ (s : Shared) (H : Hp) (C : Addr) (cl : List (Str × Addr)) (fp : List Addr), DE (X.blk s H scope (compEnvC scope cl C X.env) fp) c elt me) (hsl : ∀ i ∈ sl, i ∈ own.map (·.2) := by decide) (hs : ∀ x, foldedSetIterable iter X.env x = pure x := by intro _; rfl) :
    DS X c (.Assign [.Name y py] (.ListComp elt [⟨tg, iter, ifs, 0⟩] scope pos) spos) (dAsg (dLc z mi g mt me (own.map (·.2))) (gNm i)) := by
  refine ⟨PS.imp (ps_setLc (te := liftE X.K c me) (tt := liftT X.K c mt) (g := liftG X.K c sl g) (i := i) hc hN hy hyl hsw hi.run ok (fun s H C cl fp => (hg s H C cl fp).run) (fun s H C cl fp => (ht s H C cl fp).run) (fun s H C cl fp => (he s H C cl fp).run) hs) fun D σ H h => ?_⟩
  obtain ⟨F, en, R, r, h, k⟩ := h
  refine lift_lc hsl ⟨F, en, _, r, h, fun d hd v F' H' x rv => ?_⟩
  exact k.nx _ _ F' H' hd ((r.grow x).set rv) x.ff
/-- a, b = e1, e2: two names at once -/
def par2 (i j : Nat) (ds : List D) (en : En) (Q : En → Prop) : Prop := match ds with | [d, e] => Q ((en.set i (.val d)).set j (.val e)) | _ => False
def dPar (i j : Nat) (ml : DTA) (R : DEnds) (en : En) : Prop := ml en fun ds => par2 i j ds en R.nx
theorem ds_par {i j : Nat} {x y : Str} {px py pt : Pos} {kt k2 pt2} (hc : X.calm = true) (hN : X.N.Nodup) (hi : X.N[i]? = some x) (hj : X.N[j]? = some y) (hij : i ≠ j)
    (hx : X.env.scope.names.lookup x = some .local) (hy : X.env.scope.names.lookup y = some .local) (ha : DA X c [a, b] ml)
    (hw : swappedStores [.Tuple [.Name x px, .Name y py] kt pt] (.Tuple [a, b] k2 pt2) X.env = pure (some [x, y]))
    (hs : swapsWithSole [.Tuple [.Name x px, .Name y py] kt pt] (.Tuple [a, b] k2 pt2) pos.line X.env = pure false := by rfl) :
    DS X c (.Assign [.Tuple [.Name x px, .Name y py] kt pt] (.Tuple [a, b] k2 pt2) pos) (dPar i j ml) := by
  refine ⟨PS.imp (ps_par hc hN hi hj hij hx hy ha.run hw hs) fun D σ H h => ?_⟩
  obtain ⟨F, en, R, r, h, k⟩ := h
  refine ⟨F, en, _, r, h, fun ds hd vs F' H' x rv hn => ?_⟩
  unfold par2 at hd
  split at hd
  · obtain ⟨v, u, rfl, r1, r2⟩ := rv.two
    exact ⟨v, u, rfl, k.nx _ _ F' H' hd (((r.grow x).set r1).set r2) x.ff⟩
  · exact hd.elim
/-- x op= e, ints -/
def dAug (i : Nat) (f : Int → Int → Int) (m : DTE) (R : DEnds) (en : En) : Prop := onVal (gt en i) fun x => onInt x fun k => m en fun d => onInt d fun j => R.nx (en.set i (.val (.int (f k j))))
theorem ds_aug {i : Nat} {x : Str} {op : Operator} {f : Int → Int → Int} {pos' : Pos} (ho : PIp X op (ipI f)) (hN : X.N.Nodup) (hi : X.N[i]? = some x) (hx : Loc X.env.scope x) (he : DE X c e m) (hf : X.fn x = true ∨ X.env.scope.names.lookup x = some .local := by first | exact .inl rfl | exact .inr rfl | assumption) :
    DS X c (.AugAssign (.Name x pos') op e pos) (dAug i f m) := by
  refine ⟨PS.imp (ps_aug (i := i) hN hi hx he.run ho hf) fun D σ H h => ?_⟩
  obtain ⟨F, en, R, r, h, k⟩ := h
  unfold dAug onVal at h
  split at h
  · rename_i z hg
    obtain ⟨ov, e1, v, e2, e3⟩ := r.sl i _ (gt_get hg (fun z => nomatch z))
    subst e2
    cases z with
    | int z =>
      cases e3
      refine ⟨_, e1, F, en, _, r, h, fun d hd u F' H' x rv => ?_⟩
      cases d with
      | int j =>
        cases rv
        exact ⟨z, j, rfl, rfl, k.nx _ _ F' H' hd ((r.grow x).set (.int _)) x.ff⟩
      | _ => exact False.elim hd
    | _ => exact False.elim h
  · exact h.elim
/-- x.append(e), x the def's own list -/
def dApp (i : Nat) (m : DTE) (R : DEnds) (en : En) : Prop := onOwn (gt en i) fun xs => m en fun d => xs.length < sizeLine ∧ R.nx (en.set i (.own (xs ++ [d])))
theorem lift_app {K : PySem.W.Frag} {i : Nat} {D : Ends} {σ : St} {H : Hp} (h : liftS K c (dApp i m) D σ H) : tDrop (tBM K "list" rAppend (tVar i) (tCons (liftE K c m) tNil)) D σ H := by
  obtain ⟨F, en, R, r, h, k⟩ := h
  unfold dApp onOwn at h
  split at h
  · rename_i xs hg
    have hen := gt_get hg (fun z => nomatch z)
    obtain ⟨ov, e1, p, vs, e2, e3, e4, e5⟩ := r.sl i _ hen
    subst e2
    refine ⟨_, e1, .inl ⟨rfl, _, SqL.of e3⟩, F, en, _, r, h, fun d hd u F' H' x rv => ?_⟩
    have g := r.grow x
    have ha : ownAt σ en i p := ⟨e1, _, hen, rfl⟩
    have e3' := x.hh _ _ e3 (r.notW ha)
    have e4' := Reps.mono x.ff _ _ e4
    refine ⟨p, vs, u, rfl, rfl, e3', by rw [e4.len]; exact hd.1, ?_⟩
    refine k.nx _ _ F' _ hd.2 (g.turn ha ⟨p, _, rfl, upd_same, e4'.append (.cons rv .nil), ?_⟩) x.ff
    rw [List.length_append, List.length_singleton]
    exact hd.1
  · exact h.elim
theorem ds_app {i : Nat} {x : Str} {px ap spos : Pos} (hN : X.N[i]? = some x) (hv : Vis X.env.scope x) (ha : DE X c e m) (hb : attributeBase (.Name x px) "append" X.env (eval (.Name x px) X.env) = eval (.Name x px) X.env := by rfl)
    (hp : PE X (.Call (.Attribute (.Name x px) "append" ap) [e] [] pos) (tBM X.K "list" rAppend (tVar i) (tCons (liftE X.K c m) tNil)))
    (hs : swapsWith (.Call (.Attribute (.Name x px) "append" ap) [e] [] pos) none spos.line X.env = pure false := by rfl) : DS X c (.Expr (.Call (.Attribute (.Name x px) "append" ap) [e] [] pos) spos) (dApp i m) :=
  ⟨PS.imp (ps_expr hp hs) fun _ _ _ h => lift_app h⟩
/-- x.extend(e) -/
def onLst (d : D) (K : List D → Prop) : Prop := match d with | .list ds => K ds | _ => False
def dExt (i : Nat) (m : DTE) (R : DEnds) (en : En) : Prop := onOwn (gt en i) fun xs => m en fun d => onLst d fun ys => xs.length + ys.length ≤ sizeLine ∧ R.nx (en.set i (.own (xs ++ ys)))
theorem lift_ext {K : PySem.W.Frag} {i : Nat} {D : Ends} {σ : St} {H : Hp} (h : liftS K c (dExt i m) D σ H) : tDrop (tBM K "list" rExtend (tVar i) (tCons (liftE K c m) tNil)) D σ H := by
  obtain ⟨F, en, R, r, h, k⟩ := h
  unfold dExt onOwn at h
  split at h
  · rename_i xs hg
    have hen := gt_get hg (fun z => nomatch z)
    obtain ⟨ov, e1, p, vs, e2, e3, e4, e5⟩ := r.sl i _ hen
    subst e2
    refine ⟨_, e1, .inl ⟨rfl, _, SqL.of e3⟩, F, en, _, r, h, fun d hd u F' H' x rv => ?_⟩
    cases d with
    | list ys =>
      obtain ⟨q, us, rfl, g1, g2, g3⟩ := rv.lstI
      have g := r.grow x
      have ha : ownAt σ en i p := ⟨e1, _, hen, rfl⟩
      have e3' := x.hh _ _ e3 (r.notW ha)
      have e4' := Reps.mono x.ff _ _ e4
      refine ⟨p, q, vs, us, rfl, rfl, e3', x.fh _ _ g1, by rw [e4.len, g2.len]; exact hd.1, ?_⟩
      refine k.nx _ _ F' _ hd.2 (g.turn ha ⟨p, _, rfl, upd_same, e4'.append g2, ?_⟩) x.ff
      rw [List.length_append]
      exact hd.1
    | _ => exact False.elim hd
  · exact h.elim
theorem ds_ext {i : Nat} {x : Str} {px ap spos : Pos} (ha : DE X c e m)
    (hp : PE X (.Call (.Attribute (.Name x px) "extend" ap) [e] [] pos) (tBM X.K "list" rExtend (tVar i) (tCons (liftE X.K c m) tNil)))
    (hs : swapsWith (.Call (.Attribute (.Name x px) "extend" ap) [e] [] pos) none spos.line X.env = pure false := by rfl) : DS X c (.Expr (.Call (.Attribute (.Name x px) "extend" ap) [e] [] pos) spos) (dExt i m) :=
  ⟨PS.imp (ps_expr hp hs) fun _ _ _ h => lift_ext h⟩
def dWhile (mt : DTT) (s1 : DTS) (R : DEnds) (en : En) : Prop := ∃ W : Nat → En → Prop, (∃ n, W n en) ∧ ∀ n en, W n en → mt en fun b => Cnd b (s1 { nx := fun en' => ∃ m, m < n ∧ W m en', ct := fun en' => ∃ m, m < n ∧ W m en', bk := R.nx, rt := R.rt } en) (R.nx en)
theorem ds_while {body : List Stmt} (hp : PassesOwn (model X.prog X.w) X.A X.env X.xe) (ht : DT X c e mt) (hb : DSs X c body s1) : DS X c (.While e body [] pos) (dWhile mt s1) := by
  refine ⟨PS.imp (ps_while hp ht.run hb.run) fun D σ H h => ?_⟩
  obtain ⟨F, en, R, r, ⟨W, ⟨n0, w0⟩, turn⟩, k⟩ := h
  refine ⟨fun n σ H => ∃ F' en, SR X.K c F' σ H en ∧ Sub F F' ∧ W n en, ⟨n0, F, en, r, .refl, w0⟩, ?_⟩
  rintro n σ1 H1 ⟨F1, en1, r1, s1', w1⟩
  refine ⟨F1, en1, _, r1, turn n en1 w1, fun b hb F2 H2 x2 => ?_⟩
  have s2 := s1'.trans x2.ff
  cases b with
  | true =>
    refine ⟨fun σ' H' => ∃ m, m < n ∧ ∃ F' en, SR X.K c F' σ' H' en ∧ Sub F F' ∧ W m en, fun σ' H' ⟨m, hm, z⟩ => ⟨m, hm, z⟩, F2, en1, _, r1.grow x2, hb, ?_, k.rt, ?_, ?_⟩
    · rintro en' σ' F' H' ⟨m, hm, wm⟩ r' sb
      exact ⟨m, hm, F', en', r', s2.trans sb, wm⟩
    · exact fun en' σ' F' H' a b q => k.nx en' σ' F' H' a b (s2.trans q)
    · rintro en' σ' F' H' ⟨m, hm, wm⟩ r' sb
      exact ⟨m, hm, F', en', r', s2.trans sb, wm⟩
  | false => exact k.nx _ _ F2 H2 hb (r1.grow x2) s2
/-- a loop over known items -/
def ForW (g : DTG) (s1 : DTS) (ds : List D) (R : DEnds) (en : En) : Prop := ∃ W : Nat → En → Prop, W 0 en ∧ (∀ i d, ds[i]? = some d → ∀ en, W i en → g d en fun en' => s1 { nx := W (i + 1), ct := W (i + 1), bk := R.nx, rt := R.rt } en') ∧ ∀ en, W ds.length en → R.nx en
def dFor (mi : DTA) (g : DTG) (s1 : DTS) (R : DEnds) (en : En) : Prop := mi en fun ds => ForW g s1 ds R en
theorem ds_for {tg iter : Expr} {body : List Stmt} {z : Bool} {mi : DTA} {g : DTG} {sl : List Nat} (hp : PassesOwn (model X.prog X.w) X.A X.env X.xe) (hc : X.calm = true) (hi : DI X c tg iter z mi) (hg : DG X c tg sl g) (hb : DSs X c body s1)
    (hs : ∀ x, foldedSetIterable iter X.env x = pure x := by intro _; rfl) : DS X c (.For tg iter body [] pos) (dFor mi g s1) := by
  refine ⟨PS.imp (ps_for hp hc hi.run hg.run hb.run hs) fun D σ H h => ?_⟩
  obtain ⟨F, en, R, r, h, k⟩ := h
  refine ⟨F, en, _, r, h, fun ds hd J F1 H1 x1 w _ => ?_⟩
  obtain ⟨W, w0, turn, fin⟩ := hd
  refine ⟨fun i m σ H => m = ds.length - i ∧ i ≤ ds.length ∧ ∃ F' en, SR X.K c F' σ H en ∧ Sub F1 F' ∧ W i en, ⟨ds.length, by simp, Nat.zero_le _, F1, en, r.grow x1, .refl, w0⟩, ?_⟩
  rintro i m σ2 H2 ⟨rfl, hi2, F2, en2, r2, sb, w2⟩
  by_cases hlt : i < ds.length
  · have ed : ds[i]? = some ds[i] := List.getElem?_eq_getElem hlt
    refine .inr ⟨w.go i _ F2 H2 sb r2.ext.self ed, fun σ' H' => ∃ F' en, SR X.K c F' σ' H' en ∧ Sub F1 F' ∧ W (i + 1) en, fun σ' H' h' => ⟨ds.length - (i + 1), by omega, rfl, hlt, h'⟩, fun x H' y => ?_⟩
    obtain ⟨F3, x3, rx⟩ := w.yld i _ F2 H2 x H' sb r2.ext.self ed y
    have s3 := sb.trans x3.ff
    refine ⟨F3, en2, ds[i], _, r2.grow x3, rx, turn i _ ed en2 w2, fun en' σ' h' r' _ => ?_⟩
    refine ⟨F3, en', _, r', h', fun en4 σ4 F4 H4 a b q => ⟨F4, en4, b, s3.trans q, a⟩, k.rt, fun en4 σ4 F4 H4 a b q => k.nx _ _ F4 H4 a b ((Sub.trans x1.ff s3).trans q), fun en4 σ4 F4 H4 a b q => ⟨F4, en4, b, s3.trans q, a⟩⟩
  · have e : i = ds.length := by omega
    subst e
    exact .inl ⟨w.stop F2 H2 sb r2.ext.self, k.nx _ _ F2 H2 (fin en2 w2) r2 (Sub.trans x1.ff sb)⟩
/-- item by item -/
def forL (g : DTG) (s1 : DTS) : List D → DEnds → En → Prop
  | [], R, en => R.nx en
  | d :: ds, R, en => g d en fun en' => s1 { nx := forL g s1 ds R, ct := forL g s1 ds R, bk := R.nx, rt := R.rt } en'
theorem for_unroll {g : DTG} {ds : List D} {R : DEnds} {en : En} (h : forL g s1 ds R en) : ForW g s1 ds R en := by
  refine ⟨fun i en => forL g s1 (ds.drop i) R en, h, fun i d e en w => ?_, fun en w => ?_⟩
  · have hl : i < ds.length := (List.getElem?_eq_some_iff.mp e).1
    have q : ds.drop i = d :: ds.drop (i + 1) := by
      rw [List.drop_eq_getElem_cons hl]
      rw [(List.getElem?_eq_some_iff.mp e).2]
    simp only [q] at w
    exact w
  · simpa [forL] using w

/-- the slots at the entry: the arguments, then nothing -/
def startE (n : Nat) (ds : List D) : En := ds.map .val ++ List.replicate (n - ds.length) .un
theorem sr_start {K : PySem.W.Frag} {N : List Str} {F H : Hp} {vs : List V} {ds : List D} (hF : ∀ a o, F a = some o → H a = some o) (r : Reps K F vs ds) : SR K ⟨none, F, H⟩ F (L2.start N vs) H (startE N.length ds) := by
  have hl := r.len
  have key : ∀ (i : Nat) s, (startE N.length ds)[i]? = some s → ∃ ov, (L2.start N vs)[i]? = some ov ∧ SlR K ⟨none, F, H⟩ F H ov s ∧ s.isOwn = false := fun i s e => by
    unfold startE at e
    unfold L2.start
    by_cases q : i < ds.length
    · rw [List.getElem?_append_left (by simpa using q), List.getElem?_map, List.getElem?_eq_getElem q] at e
      cases e
      obtain ⟨v, h1, h2⟩ := r.get (List.getElem?_eq_getElem q)
      exact ⟨some v, by rw [List.getElem?_append_left (by simpa [hl] using q), List.getElem?_map, h1]; rfl, ⟨v, rfl, h2⟩, rfl⟩
    · rw [List.getElem?_append_right (by simpa using Nat.not_lt.mp q), List.length_map, List.getElem?_replicate] at e
      split at e
      · rename_i h1
        cases e
        refine ⟨none, ?_, trivial, rfl⟩
        rw [List.getElem?_append_right (by simpa [hl] using Nat.not_lt.mp q), List.length_map, List.getElem?_replicate, hl, if_pos h1]
      · cases e
  refine ⟨.refl hF (fun _ e => nomatch e), ?_, fun i s e => ?_, fun i a h => ?_, fun i j a h _ => ?_, fun _ e => nomatch e⟩
  · unfold L2.start startE
    simp [hl]
  · obtain ⟨ov, h1, h2, _⟩ := key i s e
    exact ⟨ov, h1, h2⟩
  · obtain ⟨_, s, es, so⟩ := h
    obtain ⟨_, _, _, n⟩ := key i s es
    rw [n] at so; cases so
  · obtain ⟨_, s, es, so⟩ := h
    obtain ⟨_, _, _, n⟩ := key i s es
    rw [n] at so; cases so
/-- what a def's body wants -/
def fnE (R : D → Prop) : DEnds := { nx := fun _ => R .none, rt := R }
end
section
variable {P : Program} {w : World} {K : PySem.W.Frag} {mg : Str → Option Value} {base : Heap}
/-- THE RULE for a def: its body as a reading, and that the promise leads to the reading -/
theorem def_ok {x qual : Str} {st : Stmt} {f : Addr} {fd : FuncData} {N ps : List Str} {k : Nat} {sp : Lay.Spec} {m : DTS} (F : Fun K x qual st f fd) (S : FnScope N ps (defScope st))
    (body : ∀ (cdv : Value) (A : Around) (outer : List Env) (s : Shared) (H : Hp) (E : XK) (c : Ct), Room k (A.deeper (envOfC qual (defScope st) s.heap.objs.size f cdv)) → DSs (cxOf CX0 P w K mg base N qual (defScope st) f cdv A outer s H E).nox c (defBody st) m)
    (ok : ∀ ds R, ds.length = ps.length → sp ds R → m (fnE R) (startE N.length ds)) : FnOk P w K mg base CX0 (k + 1) f fd ps (liftSp K ps.length sp) := by
  refine F.ok S (fun vs H Q E h => ?_) (fun cdv A outer s H vs Q E hr h => ?_)
  · obtain ⟨_, _, _, h, _⟩ := h
    exact h
  obtain ⟨F0, ds, R, hl, hF, rv, hsp, kk⟩ := h
  refine ⟨_, (body cdv A outer s H E ⟨none, F0, H⟩ hr).run, ?_⟩
  refine ⟨F0, startE N.length ds, fnE R, sr_start hF rv, ok ds R (by rw [← rv.len]; exact hl) hsp, fun en' σ' F' H' a b _ => ?_, fun d v F' H' a b c => kk d a v F' H' b c, fun en' σ' F' H' a b _ => a.elim, fun en' σ' F' H' a b _ => a.elim⟩
  exact kk _ a _ F' H' b.ext .non
end
end Lay
namespace Lay
open PySem PySem.Spec L2
open PyProof.Rows hiding St

section
variable {X : Cx} {c : Ct} {e a b : Expr} {es : List Expr} {m ma mb : DTE} {ml : DTA} {mt mu : DTT} {pos : Pos} {s1 : DTS}
theorem nv (i : Nat) {x : Str} (hN : X.N[i]? = some x := by rfl) (hv : Vis X.env.scope x := by first | exact Or.inl rfl | exact Or.inr (Or.inl rfl) | exact Or.inr (Or.inr rfl)) (hd : (x == ("__debug__" : Str)) = false := by decide)
    (hcd : (x == ("__classdict__" : Str)) = false := by decide) : DE X c (.Name x pos) (dVar i) := de_var hN hv hd hcd
theorem gn (i : Nat) (hN : X.N.Nodup) {x : Str} (hi : X.N[i]? = some x := by rfl) (hx : Loc X.env.scope x := by first | exact Or.inl rfl | exact Or.inr rfl) (hf : X.fn x = true ∨ X.env.scope.names.lookup x = some .local := by first | exact .inl rfl | exact .inr rfl) : DG X c (.Name x pos) [i] (gNm i) := dg_name hN hi hx hf
theorem sset (i : Nat) {x : Str} {pos' : Pos} (hN : X.N.Nodup) (he : DE X c e m) (hi : X.N[i]? = some x := by rfl) (hx : Loc X.env.scope x := by first | exact Or.inl rfl | exact Or.inr rfl) (hs : swapsWith e (some (.Name x pos')) pos.line X.env = pure false := by rfl) (hf : X.fn x = true ∨ X.env.scope.names.lookup x = some .local := by first | exact .inl rfl | exact .inr rfl) :
    DS X c (.Assign [.Name x pos'] e pos) (dAsg m (gNm i)) := ds_set hN hi hx he hs hf
theorem sown (i : Nat) {x : Str} {pos' spos : Pos} (hN : X.N.Nodup) (ha : DA X c es ml) (hi : X.N[i]? = some x := by rfl) (hx : Loc X.env.scope x := by first | exact Or.inl rfl | exact Or.inr rfl) (hz : es.length ≤ sizeLine := by decide) (hs : swapsWith (.List es pos) (some (.Name x pos')) pos.line X.env = pure false := by rfl) (hf : X.fn x = true ∨ X.env.scope.names.lookup x = some .local := by first | exact .inl rfl | exact .inr rfl) (hs' : swapsWith (.List es pos) (some (.Name x pos')) spos.line X.env = pure false := by rfl) :
    DS X c (.Assign [.Name x pos'] (.List es pos) spos) (dOwn i ml) := ds_own hN hi hx ha hz hs hf hs'
theorem sownL (i : Nat) {x : Str} {p pos' spos : Pos} (hN : X.N.Nodup) (hm : X.mg "list" = none) (ha : DA X c [a] ml) (hg : Gl X "list" := by rfl) (hi : X.N[i]? = some x := by rfl) (hx : Loc X.env.scope x := by first | exact Or.inl rfl | exact Or.inr rfl) (hs : swapsWith (.Call (.Name "list" p) [a] [] pos) (some (.Name x pos')) spos.line X.env = pure false := by rfl)
    (he : starEach [a] X.env = (false, eval a X.env) :: starEach [] X.env := by rfl) (hpl : (backTo pos (starEach [] X.env)).any (·.1) = false := by rfl) (hf : X.fn x = true ∨ X.env.scope.names.lookup x = some .local := by first | exact .inl rfl | exact .inr rfl) :
    DS X c (.Assign [.Name x pos'] (.Call (.Name "list" p) [a] [] pos) spos) (dOwnL i ml) := ds_ownL hg hm hN hi hx ha hs he hpl hf
theorem saug (i : Nat) {x : Str} {op : Operator} {f : Int → Int → Int} {pos' : Pos} (ho : PIp X op (ipI f)) (hN : X.N.Nodup) (he : DE X c e m) (hi : X.N[i]? = some x := by rfl) (hx : Loc X.env.scope x := by first | exact Or.inl rfl | exact Or.inr rfl) (hf : X.fn x = true ∨ X.env.scope.names.lookup x = some .local := by first | exact .inl rfl | exact .inr rfl) :
    DS X c (.AugAssign (.Name x pos') op e pos) (dAug i f m) := ds_aug ho hN hi hx he hf
theorem sapp (i : Nat) {x : Str} {px ap spos : Pos} (ha : DE X c e m) (hN : X.N[i]? = some x := by rfl) (hv : Vis X.env.scope x := by first | exact Or.inl rfl | exact Or.inr (Or.inl rfl) | exact Or.inr (Or.inr rfl)) (hd : (x == ("__debug__" : Str)) = false := by decide) (hcd : (x == ("__classdict__" : Str)) = false := by decide)
    (hbase : attributeBase (.Name x px) "append" X.env (eval (.Name x px) X.env) = eval (.Name x px) X.env := by rfl)
    (hfew : ((backTo pos (starEach [e] X.env)).all (fun x => !x.1) && (backToKw pos (keywordEach [] X.env)).all (fun x => x.1.isSome) && decide ([e].length + ([] : List Keyword).length + (if ([] : List Keyword).isEmpty then 0 else 1) < 30)) = true := by rfl)
    (hline : (ap.endLine == pos.line) = true := by rfl) (hst : starEach [e] X.env = (false, eval e X.env) :: starEach [] X.env := by rfl) (hplain : (backTo pos (starEach [] X.env)).any (·.1) = false := by rfl)
    (hs : swapsWith (.Call (.Attribute (.Name x px) "append" ap) [e] [] pos) none spos.line X.env = pure false := by rfl) : DS X c (.Expr (.Call (.Attribute (.Name x px) "append" ap) [e] [] pos) spos) (dApp i m) :=
  ds_app hN hv ha hbase (pe_bm PySem.F.plainAttrs_list PySem.F.slot_list_append PySem.F.type_list_append mt_append (pe_var hN hv hd hcd) (pa_cons ha.run pa_nil hst) hbase hfew hline hst hplain) hs
theorem sext (i : Nat) {x : Str} {px ap spos : Pos} (ha : DE X c e m) (hN : X.N[i]? = some x := by rfl) (hv : Vis X.env.scope x := by first | exact Or.inl rfl | exact Or.inr (Or.inl rfl) | exact Or.inr (Or.inr rfl)) (hd : (x == ("__debug__" : Str)) = false := by decide) (hcd : (x == ("__classdict__" : Str)) = false := by decide)
    (hbase : attributeBase (.Name x px) "extend" X.env (eval (.Name x px) X.env) = eval (.Name x px) X.env := by rfl)
    (hfew : ((backTo pos (starEach [e] X.env)).all (fun x => !x.1) && (backToKw pos (keywordEach [] X.env)).all (fun x => x.1.isSome) && decide ([e].length + ([] : List Keyword).length + (if ([] : List Keyword).isEmpty then 0 else 1) < 30)) = true := by rfl)
    (hline : (ap.endLine == pos.line) = true := by rfl) (hst : starEach [e] X.env = (false, eval e X.env) :: starEach [] X.env := by rfl) (hplain : (backTo pos (starEach [] X.env)).any (·.1) = false := by rfl)
    (hs : swapsWith (.Call (.Attribute (.Name x px) "extend" ap) [e] [] pos) none spos.line X.env = pure false := by rfl) : DS X c (.Expr (.Call (.Attribute (.Name x px) "extend" ap) [e] [] pos) spos) (dExt i m) :=
  ds_ext ha (pe_bm PySem.F.plainAttrs_list PySem.F.slot_list_extend PySem.F.type_list_extend mt_extend (pe_var hN hv hd hcd) (pa_cons ha.run pa_nil hst) hbase hfew hline hst hplain) hs
theorem spar (i j : Nat) {x y : Str} {px py pt : Pos} {kt k2 pt2} (hN : X.N.Nodup) (ha : DA X c [a, b] ml) (hc : X.calm = true := by rfl) (hi : X.N[i]? = some x := by rfl) (hj : X.N[j]? = some y := by rfl) (hij : i ≠ j := by decide)
    (hx : X.env.scope.names.lookup x = some .local := by rfl) (hy : X.env.scope.names.lookup y = some .local := by rfl)
    (hw : swappedStores [.Tuple [.Name x px, .Name y py] kt pt] (.Tuple [a, b] k2 pt2) X.env = pure (some [x, y]) := by rfl)
    (hs : swapsWithSole [.Tuple [.Name x px, .Name y py] kt pt] (.Tuple [a, b] k2 pt2) pos.line X.env = pure false := by rfl) :
    DS X c (.Assign [.Tuple [.Name x px, .Name y py] kt pt] (.Tuple [a, b] k2 pt2) pos) (dPar i j ml) := ds_par hc hN hi hj hij hx hy ha hw hs
/-- a def that stands and keeps its promise -/
def Has (P : Program) (w : World) (K : PySem.W.Frag) (mg : Str → Option Value) (base : Heap) (k : Nat) (x : Str) (ps : List Str) (sp : Sp) : Prop :=
  ∃ f fd, FnOk P w K mg base CX0 k f fd ps sp ∧ mg x = some (.ref f) ∧ PySem.W.keepIn K (.ref f) = true ∧ Binds K fd ps []
theorem kall {x : Str} {p : Pos} {k j : Nat} {ps : List Str} {sp : Lay.Spec} (G : Has X.prog X.w X.K X.mg X.base j x ps (liftSp X.K ps.length sp)) (hr : Room k X.A) (ha : DA X c (e :: es) ml) (hj : j ≤ k := by decide) (hg : Gl X x := by rfl)
    (hl : (e :: es).length = ps.length := by rfl) (hdb : (x == ("__debug__" : Str)) = false := by decide) (he : starEach (e :: es) X.env = (false, eval e X.env) :: starEach es X.env := by rfl) (hpl : (backTo pos (starEach es X.env)).any (·.1) = false := by rfl) :
    DE X c (.Call (.Name x p) (e :: es) [] pos) (dCall sp ml) := by
  obtain ⟨f, fd, G, hm, hk, hb⟩ := G
  exact de_call G (hr.mono hj) hg hm hk hb ha hl hdb he hpl
theorem kallW (i : Nat) {x y : Str} {p py : Pos} {k j : Nat} {ps : List Str} {sp : Lay.Spec} (G : Has X.prog X.w X.K X.mg X.base j x ps (liftSpW X.K (ps.length - 1) sp)) (hr : Room k X.A) (ha : DA X c es ml) (hj : j ≤ k := by decide) (hg : Gl X x := by rfl)
    (hN : X.N[i]? = some y := by rfl) (hv : Vis X.env.scope y := by first | exact Or.inl rfl | exact Or.inr (Or.inl rfl) | exact Or.inr (Or.inr rfl))
    (hl : es.length = ps.length - 1 := by rfl) (hdb : (x == ("__debug__" : Str)) = false := by decide) (he : starEach (.Name y py :: es) X.env = (false, eval (.Name y py) X.env) :: starEach es X.env := by rfl) (hpl : (backTo pos (starEach es X.env)).any (·.1) = false := by rfl)
    (hd : (y == ("__debug__" : Str)) = false := by decide) (hcd : (y == ("__classdict__" : Str)) = false := by decide) :
    DE X c (.Call (.Name x p) (.Name y py :: es) [] pos) (dCallW i sp ml) := by
  obtain ⟨f, fd, G, hm, hk, hb⟩ := G
  exact de_callW G (hr.mono hj) hg hm hk hb hN hv ha hl hdb he hpl hd hcd

def dLenS (i : Nat) (en : En) (Q : D → Prop) : Prop := onScr (gt en i) fun ns => Q (.int ns.length)
theorem de_lenS (i : Nat) {x : Str} {p px : Pos} (hm : X.mg "len" = none) (hg : Gl X "len" := by rfl) (hN : X.N[i]? = some x := by rfl) (hv : Vis X.env.scope x := by first | exact Or.inl rfl | exact Or.inr (Or.inl rfl) | exact Or.inr (Or.inr rfl)) (hd : (x == ("__debug__" : Str)) = false := by decide) (hcd : (x == ("__classdict__" : Str)) = false := by decide)
    (he : starEach [.Name x px] X.env = (false, eval (.Name x px) X.env) :: starEach [] X.env := by rfl) (hpl : (backTo pos (starEach [] X.env)).any (·.1) = false := by rfl) : DE X c (.Call (.Name "len" p) [.Name x px] [] pos) (dLenS i) := by
  refine ⟨PE.imp (pe_callB call_len_seq hg hm PySem.boot_len (pa_cons (pe_var hN hv hd hcd) pa_nil he) (by decide) (by decide) he hpl) fun σ H Q h => ?_⟩
  obtain ⟨F, en, R, r, h, k⟩ := h
  unfold dLenS onScr at h
  split at h
  · rename_i ns hg
    obtain ⟨ov, e1, p, e2, e3⟩ := r.sl i _ (gt_get hg (fun z => nomatch z))
    subst e2
    exact ⟨_, e1, p, _, rfl, .inl (sqL_mono r.fh e3), by rw [List.length_map]; exact k _ h _ F H r.ext.self (.int _)⟩
  · exact h.elim
def optI (o : Option Int) (Q : D → Prop) : Prop := match o with | some n => Q (.int n) | none => False
def dIxS (i : Nat) (m : DTE) (en : En) (Q : D → Prop) : Prop := onScr (gt en i) fun ns => m en fun d => onInt d fun j => optI (atI ns j) Q
theorem atI_map {α β : Type} {f : α → β} {xs : List α} {i : Int} {x : α} (h : atI xs i = some x) : atI (xs.map f) i = some (f x) := by
  unfold atI at h ⊢
  rw [List.length_map]
  cases q : ixN xs.length i with
  | none => rw [q] at h; cases h
  | some j =>
    rw [q] at h
    show (xs.map f)[j]? = _
    rw [List.getElem?_map, show xs[j]? = some x from h]; rfl
theorem de_ixS (i : Nat) {x : Str} {px : Pos} (hb : DE X c b mb) (hs : PlainIx b := by exact fun _ _ => rfl) (hN : X.N[i]? = some x := by rfl) (hv : Vis X.env.scope x := by first | exact Or.inl rfl | exact Or.inr (Or.inl rfl) | exact Or.inr (Or.inr rfl)) (hd : (x == ("__debug__" : Str)) = false := by decide) (hcd : (x == ("__classdict__" : Str)) = false := by decide) :
    DE X c (.Subscript (.Name x px) b pos) (dIxS i mb) := by
  refine ⟨PE.imp (pe_ix ix_seq (pe_var hN hv hd hcd) hb.run hs) fun σ H Q h => ?_⟩
  obtain ⟨F, en, R, r, h, k⟩ := h
  unfold dIxS onScr at h
  split at h
  · rename_i ns hg
    obtain ⟨ov, e1, p, e2, e3⟩ := r.sl i _ (gt_get hg (fun z => nomatch z))
    subst e2
    refine ⟨_, e1, F, en, _, r, h, fun d hd v F' H' x rv => ?_⟩
    cases d with
    | int j =>
      have hd : optI (atI ns j) R := hd
      cases q : atI ns j with
      | none => rw [q] at hd; exact False.elim hd
      | some n =>
        rw [q] at hd
        cases rv
        exact .inl ⟨p, _, j, _, rfl, rfl, sqL_mono x.fh (sqL_mono x.ff e3), atI_map (f := V.int) q, k _ hd _ F' H' x (.int _)⟩
    | _ => exact False.elim hd
  · exact h.elim
end

section
variable {P : Program} {w : World} {K : PySem.W.Frag} {mg : Str → Option Value} {base : Heap}
theorem SR.head {F H : Hp} {σ : St} {en : En} {ov : Option V} {s : Sl} {c : Ct} (r : SR K c F σ H en) (n : s.isOwn = false) (h : SlR K c F H ov s) : SR K c F (ov :: σ) H (s :: en) where
  ext := r.ext
  len := by simp [r.len]
  sl := fun i u e => by
    cases i with
    | zero =>
      rw [List.getElem?_cons_zero] at e
      cases e
      exact ⟨ov, rfl, h⟩
    | succ i =>
      rw [List.getElem?_cons_succ] at e ⊢
      exact r.sl i u e
  own := fun i a z => by
    obtain ⟨e, u, eu, ou⟩ := z
    cases i with
    | zero =>
      rw [List.getElem?_cons_zero] at eu
      cases eu
      rw [n] at ou; cases ou
    | succ i =>
      rw [List.getElem?_cons_succ] at eu e
      exact r.own i a ⟨e, u, eu, ou⟩
  apart := fun i j a z1 z2 => by
    obtain ⟨e, u, eu, ou⟩ := z1
    obtain ⟨e', u', eu', ou'⟩ := z2
    cases i with
    | zero =>
      rw [List.getElem?_cons_zero] at eu
      cases eu
      rw [n] at ou; cases ou
    | succ i =>
      cases j with
      | zero =>
        rw [List.getElem?_cons_zero] at eu'
        cases eu'
        rw [n] at ou'; cases ou'
      | succ j =>
        rw [List.getElem?_cons_succ] at eu e eu' e'
        rw [r.apart i j a ⟨e, u, eu, ou⟩ ⟨e', u', eu', ou'⟩]
  wn := r.wn
theorem sr_startG {N : List Str} {F H : Hp} {wo : Option (Addr × Addr)} {vs : List V} {ds : List D} (hF : ∀ a o, F a = some o → H a = some o) (hw : ∀ p, wo = some p → WOk H p ∧ F p.1 = none) (r : Reps K F vs ds) (n : Nat) : SR K ⟨wo, F, H⟩ F (vs.map some ++ List.replicate n none) H (ds.map .val ++ List.replicate n .un) := by
  have hl := r.len
  have key : ∀ (i : Nat) s, (ds.map Sl.val ++ List.replicate n Sl.un)[i]? = some s → ∃ ov, (vs.map some ++ List.replicate n none)[i]? = some ov ∧ SlR K ⟨wo, F, H⟩ F H ov s ∧ s.isOwn = false := fun i s e => by
    by_cases q : i < ds.length
    · rw [List.getElem?_append_left (by simpa using q), List.getElem?_map, List.getElem?_eq_getElem q] at e
      cases e
      obtain ⟨v, h1, h2⟩ := r.get (List.getElem?_eq_getElem q)
      exact ⟨some v, by rw [List.getElem?_append_left (by simpa [hl] using q), List.getElem?_map, h1]; rfl, ⟨v, rfl, h2⟩, rfl⟩
    · rw [List.getElem?_append_right (by simpa using Nat.not_lt.mp q), List.length_map, List.getElem?_replicate] at e
      split at e
      · rename_i h1
        cases e
        refine ⟨none, ?_, trivial, rfl⟩
        rw [List.getElem?_append_right (by simpa [hl] using Nat.not_lt.mp q), List.length_map, List.getElem?_replicate, hl, if_pos h1]
      · cases e
  refine ⟨.refl hF (fun p e => (hw p e).1), ?_, fun i s e => ?_, fun i a h => ?_, fun i j a h _ => ?_, fun p e => (hw p e).2⟩
  · simp [hl]
  · obtain ⟨ov, h1, h2, _⟩ := key i s e
    exact ⟨ov, h1, h2⟩
  · obtain ⟨_, s, es, so⟩ := h
    obtain ⟨_, _, _, n⟩ := key i s es
    rw [n] at so; cases so
  · obtain ⟨_, s, es, so⟩ := h
    obtain ⟨_, _, _, n⟩ := key i s es
    rw [n] at so; cases so
theorem start_cons {N : List Str} {v : V} {vs : List V} : L2.start N (v :: vs) = some v :: (vs.map some ++ List.replicate (N.length - (vs.length + 1)) none) := rfl
def startW (n : Nat) (ds : List D) : En := .wv :: (ds.map .val ++ List.replicate (n - (ds.length + 1)) .un)
theorem def_okW {x qual : Str} {st : Stmt} {f : Addr} {fd : FuncData} {N ps : List Str} {k : Nat} {sp : Lay.Spec} {m : DTS} (F : Fun K x qual st f fd) (S : FnScope N ps (defScope st)) (hp : ps ≠ [])
    (body : ∀ (cdv : Value) (A : Around) (outer : List Env) (s : Shared) (H : Hp) (E : XK) (c : Ct), Room k (A.deeper (envOfC qual (defScope st) s.heap.objs.size f cdv)) → DSs (cxOf CX0 P w K mg base N qual (defScope st) f cdv A outer s H E).nox c (defBody st) m)
    (ok : ∀ ds R, ds.length = ps.length - 1 → sp ds R → m (fnE R) (startW N.length ds)) : FnOk P w K mg base CX0 (k + 1) f fd ps (liftSpW K (ps.length - 1) sp) := by
  have hpos : 0 < ps.length := List.length_pos_iff.mpr hp
  refine F.ok S (fun vs H Q E h => ?_) (fun cdv A outer s H vs Q E hr h => ?_)
  · obtain ⟨_, _, _, _, _, rfl, h, _⟩ := h
    rw [List.length_cons, h]
    omega
  obtain ⟨p, us, F0, ds, R, rfl, hl, hF, hn, hw, rv, hsp, kk⟩ := h
  refine ⟨_, (body cdv A outer s H E ⟨some p, F0, H⟩ hr).run, ?_⟩
  have r0 := sr_startG (N := N) (wo := some p) hF (fun q e => by cases e; exact ⟨hw, hn⟩) rv (N.length - (us.length + 1))
  have r1 := r0.head (s := .wv) (ov := some (.ref p.1)) rfl ⟨p.1, rfl, p.2, rfl⟩
  refine ⟨F0, startW N.length ds, fnE R, ?_, ok ds R (by rw [← rv.len]; exact hl) hsp, fun en' σ' F' H' a b _ => ?_, fun d v F' H' a b c => kk d a v F' H' b c, fun en' σ' F' H' a b _ => a.elim, fun en' σ' F' H' a b _ => a.elim⟩
  · rw [start_cons]
    unfold startW
    rw [← rv.len]
    exact r1
  · exact kk _ a _ F' H' b.ext .non
/-- f(script, ..) -/
def liftSpS (K : PySem.W.Frag) (n : Nat) (sp : List Int → Lay.Spec) : Sp := fun vs H Q _ => ∃ (a : Addr) (ns : List Int) (us : List V) (F : Hp) (ds : List D) (R : D → Prop), vs = .ref a :: us ∧ us.length = n ∧ SqL K F a (ns.map V.int) ∧ ns.length ≤ 63 ∧ (∀ a o, F a = some o → H a = some o) ∧
  Reps K F us ds ∧ sp ns ds R ∧ ∀ d, R d → ∀ v F' H', Ext none F H F' H' → Rep K F' v d → Q v H'
def startS (n : Nat) (ns : List Int) (ds : List D) : En := .scr ns :: (ds.map .val ++ List.replicate (n - (ds.length + 1)) .un)
theorem def_okS {x qual : Str} {st : Stmt} {f : Addr} {fd : FuncData} {N ps : List Str} {k : Nat} {sp : List Int → Lay.Spec} {m : DTS} (F : Fun K x qual st f fd) (S : FnScope N ps (defScope st)) (hp : ps ≠ [])
    (body : ∀ (cdv : Value) (A : Around) (outer : List Env) (s : Shared) (H : Hp) (E : XK) (c : Ct), Room k (A.deeper (envOfC qual (defScope st) s.heap.objs.size f cdv)) → DSs (cxOf CX0 P w K mg base N qual (defScope st) f cdv A outer s H E).nox c (defBody st) m)
    (ok : ∀ ns ds R, ds.length = ps.length - 1 → ns.length ≤ 63 → sp ns ds R → m (fnE R) (startS N.length ns ds)) : FnOk P w K mg base CX0 (k + 1) f fd ps (liftSpS K (ps.length - 1) sp) := by
  have hpos : 0 < ps.length := List.length_pos_iff.mpr hp
  refine F.ok S (fun vs H Q E h => ?_) (fun cdv A outer s H vs Q E hr h => ?_)
  · obtain ⟨_, _, _, _, _, _, rfl, h, _⟩ := h
    rw [List.length_cons, h]
    omega
  obtain ⟨a, ns, us, F0, ds, R, rfl, hl, hs, h63, hF, rv, hsp, kk⟩ := h
  refine ⟨_, (body cdv A outer s H E ⟨none, F0, H⟩ hr).run, ?_⟩
  have r0 := sr_startG (N := N) (wo := none) hF (fun q e => nomatch e) rv (N.length - (us.length + 1))
  have r1 := r0.head (s := .scr ns) (ov := some (.ref a)) rfl ⟨a, rfl, hs⟩
  refine ⟨F0, startS N.length ns ds, fnE R, ?_, ok ns ds R (by rw [← rv.len]; exact hl) h63 hsp, fun en' σ' F' H' a b _ => ?_, fun d v F' H' a b c => kk d a v F' H' b c, fun en' σ' F' H' a b _ => a.elim, fun en' σ' F' H' a b _ => a.elim⟩
  · rw [start_cons]
    unfold startS
    rw [← rv.len]
    exact r1
  · exact kk _ a _ F' H' b.ext .non

/-- draws: some list of ints from 0 below 997 -/
def sp_draws : List Int → Lay.Spec := fun _ ds R => match ds with | [.int many] => (0 ≤ many ∧ many ≤ 1000) ∧ ∀ ms : List Int, (∀ r ∈ ms, 0 ≤ r ∧ r < 997) → R (.list (ms.map .int)) | _ => False
/-- the next draw: any int from 0 below many (and 997) -/
def sp_next : Lay.Spec := fun ds R => match ds with | [.int many] => 0 < many ∧ ∀ r : Int, 0 ≤ r → r < many → r < 997 → R (.int r) | _ => False
/-- what law(script) promises -/
def spLaw (K : PySem.W.Frag) : Sp := fun vs H Q _ => ∃ (a : Addr) (ns : List Int), vs = [.ref a] ∧ SqL K H a (ns.map V.int) ∧ ns.length ≤ 63 ∧ ∀ H', Q (.bl true) H'
theorem dss_any {X : Cx} {sts : List Stmt} {m : DTS} (h : ∀ c, DSs X c sts m) : PSs X sts (fun D σ H => ∃ c, liftS X.K c m D σ H) := ⟨fun pins s σ H D I ⟨c, q⟩ => (h c).run.run pins s σ H D I q⟩
/-- the law: w = {"draws": _law_draws(script, many), "at": 0}, then the rest -/
theorem law_ok {st : Stmt} {f : Addr} {fd : FuncData} {N : List Str} {k : Nat} {many : Int} {m : DTS} {rest : List Stmt} {s1 : Stmt} (F : Fun K "law" "law" st f fd) (S : FnScope N ["script"] (defScope st)) (hN : 2 ≤ N.length) (hmany : 0 ≤ many ∧ many ≤ 1000)
    (hb : defBody st = s1 :: rest)
    (first : ∀ (cdv : Value) (A : Around) (outer : List Env) (s : Shared) (H : Hp) (E : XK), Room k (A.deeper (envOfC "law" (defScope st) s.heap.objs.size f cdv)) →
      PS (cxOf CX0 P w K mg base N "law" (defScope st) f cdv A outer s H E).nox s1 (tAsg (tDisp [(tC (.str "draws"), tCall (liftSpS K 1 sp_draws) [] E0 (tCons (tVar 0) (tCons (tC (.int many)) tNil))), (tC (.str "at"), tC (.int 0))]) (gName 1)))
    (body : ∀ (cdv : Value) (A : Around) (outer : List Env) (s : Shared) (H : Hp) (E : XK) (c : Ct), Room k (A.deeper (envOfC "law" (defScope st) s.heap.objs.size f cdv)) → DSs (cxOf CX0 P w K mg base N "law" (defScope st) f cdv A outer s H E).nox c rest m)
    (ok : m (fnE fun d => d = .bool true) (.un :: .wv :: List.replicate (N.length - 2) .un)) : FnOk P w K mg base CX0 (k + 1) f fd ["script"] (spLaw K) := by
  refine F.ok S (fun vs H Q E h => ?_) (fun cdv A outer s H vs Q E hr h => ?_)
  · obtain ⟨a, ns, rfl, _⟩ := h
    rfl
  obtain ⟨a, ns, rfl, hS, h63, kk⟩ := h
  rw [hb]
  refine ⟨_, pss_cons (first cdv A outer s H E hr) (dss_any fun c => body cdv A outer s H E c hr), ?_⟩
  intro p hp
  have np : ∀ b o, H b = some o → b ≠ p := fun b o e => ne_of_none e hp
  have hS1 : SqL K (upd H p (.dK [])) a (ns.map V.int) := by
    rcases hS with (h | ⟨o, h⟩) | h
    · exact .inl (.inl (by rw [upd_ne (np _ _ h)]; exact h))
    · exact .inl (.inr ⟨o, by rw [upd_ne (np _ _ h)]; exact h⟩)
    · exact .inr h
  refine ⟨.ref a, rfl, ?_⟩
  refine ⟨a, ns, [.int many], fun b => if b = a then upd H p (.dK []) b else none, [.int many], fun d => ∃ ms' : List Int, d = .list (ms'.map .int) ∧ ∀ r ∈ ms', 0 ≤ r ∧ r < 997, rfl, rfl, ?_, h63, fun b o e => ?_, .cons (.int _) .nil, ⟨hmany, fun ms hms => ⟨ms, rfl, hms⟩⟩, fun d hd v F' H' x rv => ?_⟩
  · rcases hS1 with (h | ⟨o, h⟩) | h
    · exact .inl (.inl (by simp only [if_pos]; exact h))
    · exact .inl (.inr ⟨o, by simp only [if_pos]; exact h⟩)
    · exact .inr h
  · by_cases q : b = a
    · simp only [q, if_pos] at e ⊢; exact e
    · simp only [q, if_neg, not_false_eq_true] at e; cases e
  · obtain ⟨ms, rfl, hms⟩ := hd
    obtain ⟨da, xs, rfl, g1, g2, g3⟩ := rv.lstI
    have exs := g2.ints_inv
    subst exs
    have h1 := x.hh p _ upd_same notW
    have h2 := x.fh _ _ g1
    refine ⟨h1, [(.inr "draws", .ref da), (.inr "at", .int 0)], rfl, by show 2 ≤ 15; decide, ?_⟩
    have ndp : da ≠ p := ne_of h2 h1 (by intro z; cases z)
    refine ⟨⟨some (p, da), fun _ => none, upd H' p (.dK (mergeK [] [(.inr "draws", .ref da), (.inr "at", .int 0)]))⟩, fun _ => none, .un :: .wv :: List.replicate (N.length - 2) .un, fnE fun d => d = .bool true, ?_, ok, fun en' σ' F' H' a b _ => (by cases a), fun d v F' H' a b c => ?_, fun en' σ' F' H' a b _ => a.elim, fun en' σ' F' H' a b _ => a.elim⟩
    · have hw : WOk (upd H' p (.dK (mergeK [] [(.inr "draws", .ref da), (.inr "at", .int 0)]))) (p, da) :=
        ⟨0, ms, by rw [upd_same]; rfl, by rw [upd_ne ndp]; exact h2, Int.le_refl 0, hms⟩
      have r0 := sr_startG (K := K) (N := N) (wo := some (p, da)) (F := fun _ => none) (H := upd H' p (.dK (mergeK [] [(.inr "draws", .ref da), (.inr "at", .int 0)]))) (vs := []) (ds := []) (fun _ _ e => nomatch e) (fun q e => by cases e; exact ⟨hw, rfl⟩) .nil (N.length - 2)
      have r1 := (r0.head (s := .wv) (ov := some (.ref p)) rfl ⟨p, rfl, da, rfl⟩).head (s := .un) (ov := some (.ref a)) rfl trivial
      have eσ : (L2.start N [V.ref a]).set 1 (some (.ref p)) = some (.ref a) :: some (.ref p) :: List.replicate (N.length - 2) none := by
        show (some (V.ref a) :: List.replicate (N.length - 1) none).set 1 (some (.ref p)) = _
        have : N.length - 1 = (N.length - 2) + 1 := by omega
        rw [this]
        rfl
      show SR K _ _ ((L2.start N [V.ref a]).set 1 (some (.ref p))) _ _
      rw [eσ]
      exact r1
    · have e : d = .bool true := a
      subst e
      cases c
      exact kk _
end
end Lay
namespace Lay
open PySem PySem.Spec L2
open PyProof.Rows hiding St

theorem shaped_int (i : Int) : SeqAt.shaped (.int i) = true := rfl
theorem shaped_bool (i : Bool) : SeqAt.shaped (.bool i) = true := rfl
theorem shaped_none : SeqAt.shaped .none = true := rfl
theorem shaped_listI (xs : List Int) : SeqAt.shaped (.list (xs.map .int)) = true := by
  have h1 : ∀ xs : List Int, PyData.canLayAll0 (xs.map .int) = true := fun xs => by
    induction xs with
    | nil => rfl
    | cons x xs ih => rw [List.map_cons, PyData.canLayAll0, ih]; rfl
  have h2 : ∀ xs : List Int, PyData.depthAll (xs.map .int) = 0 := fun xs => by
    induction xs with
    | nil => rfl
    | cons x xs ih => rw [List.map_cons, PyData.depthAll, ih]; rfl
  show (PyData.canLayAll0 (xs.map .int) && decide (PyData.depthAll (xs.map .int) + 1 ≤ 64)) = true
  rw [h1, h2]
  rfl
theorem shaped_tupI (xs : List Int) : SeqAt.shaped (.tuple (xs.map .int)) = true := by
  exact shaped_listI xs
theorem shaped_nilL : SeqAt.shaped (.list []) = true := shaped_listI []
theorem shaped_nilT : SeqAt.shaped (.tuple []) = true := shaped_tupI []
theorem cl_int (i : Int) : PyData.canLay0 (.int i) = true := rfl
theorem cl_bool (i : Bool) : PyData.canLay0 (.bool i) = true := rfl
theorem cl_none : PyData.canLay0 .none = true := rfl
theorem cl_tup (ds : List D) : PyData.canLay0 (.tuple ds) = PyData.canLayAll0 ds := rfl
theorem cl_lst (ds : List D) : PyData.canLay0 (.list ds) = PyData.canLayAll0 ds := rfl
theorem cl_nil : PyData.canLayAll0 [] = true := rfl
theorem cl_cons (d : D) (ds : List D) : PyData.canLayAll0 (d :: ds) = (PyData.canLay0 d && PyData.canLayAll0 ds) := rfl
theorem dp_int (i : Int) : PyData.depth (.int i) = 0 := rfl
theorem dp_bool (i : Bool) : PyData.depth (.bool i) = 0 := rfl
theorem dp_str (i : Str) : PyData.depth (.str i) = 0 := rfl
theorem dp_none : PyData.depth .none = 0 := rfl
theorem dp_tup (ds : List D) : PyData.depth (.tuple ds) = PyData.depthAll ds + 1 := rfl
theorem dp_lst (ds : List D) : PyData.depth (.list ds) = PyData.depthAll ds + 1 := rfl
theorem dp_nil : PyData.depthAll [] = 0 := rfl
theorem dp_cons (d : D) (ds : List D) : PyData.depthAll (d :: ds) = max (PyData.depth d) (PyData.depthAll ds) := rfl
theorem eqv_int (i j : Int) : PyData.eqv (.int i) (.int j) = decide (i = j) := by rw [PyData.eqv]; exact Bool.beq_eq_decide_eq i j
theorem eqv_bool (i j : Bool) : PyData.eqv (.bool i) (.bool j) = decide (i = j) := by rw [PyData.eqv]; exact Bool.beq_eq_decide_eq i j
theorem eqv_str (i j : Str) : PyData.eqv (.str i) (.str j) = decide (i = j) := by rw [PyData.eqv]; exact Bool.beq_eq_decide_eq i j
theorem eqv_none : PyData.eqv .none .none = true := rfl
theorem eqv_list_nil (xs : List D) : PyData.eqv (.list xs) (.list []) = xs.isEmpty := by
  cases xs with
  | nil => rfl
  | cons x xs => rfl
theorem not_dec (p : Prop) [Decidable p] : ((!decide p) = true) = ¬ p := by simp
theorem atI_0 {α : Type} (x : α) (xs : List α) : atI (x :: xs) 0 = some x := by
  unfold atI ixN
  rw [if_pos (by decide), if_pos (by simp only [List.length_cons]; omega)]
  rfl
theorem atI_1 {α : Type} (x y : α) (xs : List α) : atI (x :: y :: xs) 1 = some y := by
  unfold atI ixN
  rw [if_pos (by decide), if_pos (by simp only [List.length_cons]; omega)]
  rfl
theorem atI_2 {α : Type} (x y z : α) (xs : List α) : atI (x :: y :: z :: xs) 2 = some z := by
  unfold atI ixN
  rw [if_pos (by decide), if_pos (by simp only [List.length_cons]; omega)]
  rfl
theorem atI_at {α : Type} {xs : List α} {i : Int} (h0 : 0 ≤ i) (h : i < xs.length) : ∃ x, xs[i.toNat]? = some x ∧ atI xs i = some x := by
  have hn : i.toNat < xs.length := by omega
  refine ⟨xs[i.toNat], List.getElem?_eq_getElem hn, ?_⟩
  have : i = ((i.toNat : Nat) : Int) := by omega
  conv => lhs; rw [this]
  exact atI_nat (List.getElem?_eq_getElem hn)
theorem cmulw_small {i j : Int} (h1 : i.natAbs < 2 ^ 500000) (h2 : j.natAbs < 2 ^ 499999) : CMulW i j := wide_mul h1 h2 (by decide) (by decide) (by decide)
theorem cdivb_small {i j : Int} (h0 : j ≠ 0) (h : j.natAbs < 2 ^ 64) : CDivB i j := ⟨h0, Nat.lt_trans (PySem.Flt.log2_lt_of (by decide : 0 < 64) h) (by decide)⟩

section
variable {Q : D → Prop} {i j : Int} {d e : D} {ds es xs ys : List D} {b c : Bool} {s : Sl} {r : List Sl}
theorem addD_int : addD (.int i) (.int j) Q = Q (.int (i + j)) := rfl
theorem addD_str {x y : Str} : addD (.str x) (.str y) Q = (x.length + y.length ≤ sizeLine ∧ Q (.str (x ++ y))) := rfl
theorem addD_tup : addD (.tuple xs) (.tuple ys) Q = (xs.length + ys.length ≤ sizeLine ∧ Q (.tuple (xs ++ ys))) := rfl
theorem addD_lst : addD (.list xs) (.list ys) Q = (xs.length + ys.length ≤ sizeLine ∧ Q (.list (xs ++ ys))) := rfl
theorem subD_int : subD (.int i) (.int j) Q = Q (.int (i - j)) := rfl
theorem mulD_int : mulD (.int i) (.int j) Q = (CMulW i j ∧ Q (.int (i * j))) := rfl
theorem mulD_lst : mulD (.list ds) (.int i) Q = ((-(2 ^ 63) ≤ i ∧ i < 2 ^ 63 ∧ ds.length * i.toNat ≤ sizeLine) ∧ Q (.list (List.replicate i.toNat ds).flatten)) := rfl
theorem mulD_tup : mulD (.tuple ds) (.int i) Q = ((ds ≠ [] ∧ 1 ≤ i ∧ i ≤ 1000 ∧ ds.length ≤ 1000) ∧ Q (.tuple (List.replicate i.toNat ds).flatten)) := rfl
theorem fdivD_int : fdivD (.int i) (.int j) Q = (CDivB i j ∧ Q (.int (i.fdiv j))) := rfl
theorem modD_int : modD (.int i) (.int j) Q = (j ≠ 0 ∧ Q (.int (i.fmod j))) := rfl
theorem powD_int : powD (.int i) (.int j) Q = (CPow i j ∧ Q (.int (i ^ j.toNat))) := rfl
theorem shlD_int : shlD (.int i) (.int j) Q = (CPow i j ∧ Q (.int (i * 2 ^ j.toNat))) := rfl
theorem shrD_int : shrD (.int i) (.int j) Q = (0 ≤ j ∧ Q (.int (i / 2 ^ j.toNat))) := rfl
theorem andD_int : andD (.int i) (.int j) Q = Q (.int (Builtin.bitAnd i j)) := rfl
theorem ltD_int : ltD (.int i) (.int j) Q = Q (.bool (decide (i < j))) := rfl
theorem leD_int : leD (.int i) (.int j) Q = Q (.bool (decide (i ≤ j))) := rfl
theorem gtD_int : gtD (.int i) (.int j) Q = Q (.bool (decide (j < i))) := rfl
theorem geD_int : geD (.int i) (.int j) Q = Q (.bool (decide (j ≤ i))) := rfl
theorem eqD_ap : eqD d e Q = ((SeqAt.shaped d = true ∧ SeqAt.shaped e = true) ∧ Q (.bool (PyData.eqv d e))) := rfl
theorem neD_ap : neD d e Q = ((SeqAt.shaped d = true ∧ SeqAt.shaped e = true) ∧ Q (.bool (!PyData.eqv d e))) := rfl
theorem isD_ap : isD d .none Q = Q (.bool (isNon d)) := rfl
theorem isNotD_ap : isNotD d .none Q = Q (.bool (!isNon d)) := rfl
theorem isNon_none : isNon .none = true := rfl
theorem isNon_int : isNon (.int i) = false := rfl
theorem isNon_bool : isNon (.bool b) = false := rfl
theorem isNon_str {x : Str} : isNon (.str x) = false := rfl
theorem isNon_tup : isNon (.tuple ds) = false := rfl
theorem isNon_lst : isNon (.list ds) = false := rfl
theorem isInt_none : isIntD .none = false := rfl
theorem isInt_int : isIntD (.int i) = true := rfl
theorem isInt_bool : isIntD (.bool b) = true := rfl
theorem isInt_str {x : Str} : isIntD (.str x) = false := rfl
theorem isInt_tup : isIntD (.tuple ds) = false := rfl
theorem isInt_lst : isIntD (.list ds) = false := rfl
theorem isBool_none : isBoolD .none = false := rfl
theorem isBool_int : isBoolD (.int i) = false := rfl
theorem isBool_bool : isBoolD (.bool b) = true := rfl
theorem isBool_str {x : Str} : isBoolD (.str x) = false := rfl
theorem isBool_tup : isBoolD (.tuple ds) = false := rfl
theorem isBool_lst : isBoolD (.list ds) = false := rfl
theorem isStr_none : isStrD .none = false := rfl
theorem isStr_int : isStrD (.int i) = false := rfl
theorem isStr_bool : isStrD (.bool b) = false := rfl
theorem isStr_str {x : Str} : isStrD (.str x) = true := rfl
theorem isStr_tup : isStrD (.tuple ds) = false := rfl
theorem isStr_lst : isStrD (.list ds) = false := rfl
theorem isTup_none : isTupD .none = false := rfl
theorem isTup_int : isTupD (.int i) = false := rfl
theorem isTup_bool : isTupD (.bool b) = false := rfl
theorem isTup_str {x : Str} : isTupD (.str x) = false := rfl
theorem isTup_tup : isTupD (.tuple ds) = true := rfl
theorem isTup_lst : isTupD (.list ds) = false := rfl
theorem isLst_lst : isLstD (.list ds) = true := rfl
theorem Cnd_true {A B : Prop} : Cnd true A B = A := rfl
theorem Cnd_false {A B : Prop} : Cnd false A B = B := rfl
theorem Cnd_not {A B : Prop} : Cnd (!b) A B = Cnd b B A := by cases b <;> rfl
theorem Cnd_dec {A B p : Prop} [Decidable p] : Cnd (decide p) A B = ((p → A) ∧ (¬ p → B)) := by
  by_cases h : p
  · rw [decide_eq_true h]
    exact propext ⟨fun q => ⟨fun _ => q, fun z => absurd h z⟩, fun q => q.1 h⟩
  · rw [decide_eq_false h]
    exact propext ⟨fun q => ⟨fun z => absurd z h, fun _ => q⟩, fun q => q.2 h⟩
theorem asB_bool {K : Bool → Prop} : asB (.bool b) K = K b := rfl
theorem negD_int : negD (.int i) Q = Q (.int (-i)) := rfl
theorem notD_bool : notD (.bool b) Q = Q (.bool (!b)) := rfl
theorem onVal_val : onVal (.val d) Q = Q d := rfl
theorem onOwn_own {K : List D → Prop} : onOwn (.own ds) K = K ds := rfl
theorem onDic_dic {K : List (Key × D) → Prop} {kvs : List (Key × D)} : onDic (.dic kvs) K = K kvs := rfl
theorem onScr_scr {K : List Int → Prop} {ns : List Int} : onScr (.scr ns) K = K ns := rfl
theorem onWv_wv {K : Prop} : onWv .wv K = K := rfl
theorem onInt_int {K : Int → Prop} : onInt (.int i) K = K i := rfl
theorem onTup_tup {K : List D → Prop} : onTup (.tuple ds) K = K ds := rfl
theorem onLst_lst {K : List D → Prop} : onLst (.list ds) K = K ds := rfl
theorem onItems_lst {K : List D → Prop} : onItems (.list ds) K = K ds := rfl
theorem onItems_tup {K : List D → Prop} : onItems (.tuple ds) K = K ds := rfl
theorem frz1_own {K : List D → Prop} {L : Prop} : frz1 (.own ds) K L = K ds := rfl
theorem frz1_val {K : List D → Prop} {L : Prop} : frz1 (.val d) K L = L := rfl
theorem frz1_un {K : List D → Prop} {L : Prop} : frz1 .un K L = L := rfl
theorem ixD_lst : ixD (.list ds) e Q = ixL ds e Q := rfl
theorem ixD_tup : ixD (.tuple ds) e Q = ixL ds e Q := rfl
theorem ixL_int : ixL ds (.int i) Q = optD (atI ds i) Q := rfl
theorem optD_some : optD (some d) Q = Q d := rfl
theorem optI_some : optI (some i) Q = Q (.int i) := rfl
theorem absD_int : absD [.int i] Q = Q (.int (i.natAbs : Int)) := rfl
theorem intD_int : intD [.int i] Q = Q (.int i) := rfl
theorem intD_bool : intD [.bool b] Q = Q (.int (if b then 1 else 0)) := rfl
theorem lenD_lst : lenD [.list xs] Q = Q (.int xs.length) := rfl
theorem lenD_tup : lenD [.tuple xs] Q = Q (.int xs.length) := rfl
theorem lenD_str {z : Str} : lenD [.str z] Q = (z.length ≤ sizeLine ∧ Q (.int z.length)) := rfl
theorem tupleD_lst : tupleD [.list xs] Q = Q (.tuple xs) := rfl
theorem tupleD_tup : tupleD [.tuple xs] Q = Q (.tuple xs) := rfl
theorem listD_lst : listD [.list xs] Q = Q (.list xs) := rfl
theorem listD_tup : listD [.tuple xs] Q = Q (.list xs) := rfl
theorem min2D_int : min2D [.int i, .int j] Q = Q (.int (if j < i then j else i)) := rfl
theorem max2D_int : max2D [.int i, .int j] Q = Q (.int (if j > i then j else i)) := rfl
theorem sumD_ints {ns : List Int} : sumD [.list (ns.map .int)] Q = Q (.int ns.sum) := by unfold sumD; simp only [intsOf_map]
theorem allD_bls {ns : List Bool} : allD [.list (ns.map .bool)] Q = Q (.bool (ns.all id)) := by unfold allD; simp only [blsOf_map]
theorem anyD_bls {ns : List Bool} : anyD [.list (ns.map .bool)] Q = Q (.bool (ns.any id)) := by unfold anyD; simp only [blsOf_map]
theorem slD_lst {lo hi : Option Int} : slD (.list ds) lo hi Q = Q (.list (cutL ds lo hi)) := rfl
theorem slD_tup {lo hi : Option Int} : slD (.tuple ds) lo hi Q = Q (.tuple (cutL ds lo hi)) := rfl
theorem slD_str {lo hi : Option Int} {z : Str} : slD (.str z) lo hi Q = (z.length ≤ sizeLine ∧ Q (.str (cutS z lo hi))) := rfl
theorem gNl_nil {en : En} {K : En → Prop} : gNl [] en K = K en := rfl
theorem gCs_cons {g : DTG} {gs : DTGs} {en : En} {K : En → Prop} : gCs g gs (d :: ds) en K = g d en fun en' => gs ds en' K := rfl
theorem par2_two {m n : Nat} {en : En} {K : En → Prop} : par2 m n [d, e] en K = K ((en.set m (.val d)).set n (.val e)) := rfl
theorem seq1_lst {K : List D → Prop} : seq1 [.list xs] K = K xs := rfl
theorem seq1_tup {K : List D → Prop} : seq1 [.tuple xs] K = K xs := rfl
theorem rng1D_int {K : List D → Prop} : rng1D [.int j] K = ((-(2 ^ 62) ≤ j ∧ j < 2 ^ 62) ∧ K (rangeD 0 j.toNat)) := rfl
theorem rng2D_int {K : List D → Prop} : rng2D [.int i, .int j] K = ((-(2 ^ 62) ≤ i ∧ i < 2 ^ 62 ∧ -(2 ^ 62) ≤ j ∧ j < 2 ^ 62) ∧ K (rangeD i (j - i).toNat)) := rfl
theorem then_intro {s2 : DTS} {R : DEnds} {en : En} (h : s2 R en) : Then s2 R en := h
theorem gt_z : gt (s :: r) 0 = s := rfl
theorem gt_s {n : Nat} : gt (s :: r) (n + 1) = gt r n := rfl
theorem sp_next_int {K : D → Prop} : sp_next [.int i] K = (0 < i ∧ ∀ r : Int, 0 ≤ r → r < i → r < 997 → K (.int r)) := rfl
theorem set_z {α : Type} {x y : α} {r : List α} : (x :: r).set 0 y = y :: r := rfl
theorem set_s {α : Type} {x y : α} {r : List α} {n : Nat} : (x :: r).set (n + 1) y = x :: r.set n y := rfl
end

theorem while_byB {α : Type} {mt : DTT} {s1 : DTS} {R : DEnds} {en : En} (f : α → En) (P : α → Prop) (μ : α → Nat) (a0 : α) (he : en = f a0) (h0 : P a0)
    (turn : ∀ a, P a → mt (f a) fun b => Cnd b (s1 { nx := fun en' => ∃ a', en' = f a' ∧ P a' ∧ μ a' < μ a, ct := fun en' => ∃ a', en' = f a' ∧ P a' ∧ μ a' < μ a, bk := R.nx, rt := R.rt } (f a)) (R.nx (f a))) : dWhile mt s1 R en := by
  refine ⟨fun n en => ∃ a, en = f a ∧ P a ∧ μ a = n, ⟨_, a0, he, h0, rfl⟩, ?_⟩
  rintro n en ⟨a, rfl, h, rfl⟩
  have e : (fun en' => ∃ m, m < μ a ∧ ∃ a', en' = f a' ∧ P a' ∧ μ a' = m) = fun en' => ∃ a', en' = f a' ∧ P a' ∧ μ a' < μ a := by
    funext en'
    refine propext ⟨?_, ?_⟩
    · rintro ⟨m, hm, a', h1, h2, rfl⟩
      exact ⟨a', h1, h2, hm⟩
    · rintro ⟨a', h1, h2, h3⟩
      exact ⟨_, h3, a', h1, h2, rfl⟩
  rw [e]
  exact turn a h
theorem for_byB {α : Type} {g : DTG} {s1 : DTS} {ds : List D} {R : DEnds} {en : En} (f : α → En) (P : Nat → α → Prop) (a0 : α) (he : en = f a0) (h0 : P 0 a0)
    (turn : ∀ i d, ds[i]? = some d → ∀ a, P i a → g d (f a) fun en' => s1 { nx := fun en' => ∃ a', en' = f a' ∧ P (i + 1) a', ct := fun en' => ∃ a', en' = f a' ∧ P (i + 1) a', bk := R.nx, rt := R.rt } en')
    (fin : ∀ a, P ds.length a → R.nx (f a)) : ForW g s1 ds R en := by
  refine ⟨fun i en => ∃ a, en = f a ∧ P i a, ⟨a0, he, h0⟩, ?_, ?_⟩
  · rintro i d hd en ⟨a, rfl, h⟩
    exact turn i d hd a h
  · rintro en ⟨a, rfl, h⟩
    exact fin a h
/-- without break -/
theorem while_by {α : Type} {mt : DTT} {s1 : DTS} {R : DEnds} {en : En} (f : α → En) (P : α → Prop) (μ : α → Nat) (a0 : α) (he : en = f a0) (h0 : P a0)
    (turn : ∀ a, P a → ∀ bk : En → Prop, mt (f a) fun b => Cnd b (s1 { nx := fun en' => ∃ a', en' = f a' ∧ P a' ∧ μ a' < μ a, ct := fun en' => ∃ a', en' = f a' ∧ P a' ∧ μ a' < μ a, bk := bk, rt := R.rt } (f a)) (R.nx (f a))) : dWhile mt s1 R en :=
  while_byB f P μ a0 he h0 fun a h => turn a h R.nx
theorem for_by {α : Type} {g : DTG} {s1 : DTS} {ds : List D} {R : DEnds} {en : En} (f : α → En) (P : Nat → α → Prop) (a0 : α) (he : en = f a0) (h0 : P 0 a0)
    (turn : ∀ i d, ds[i]? = some d → ∀ a, P i a → ∀ bk : En → Prop, g d (f a) fun en' => s1 { nx := fun en' => ∃ a', en' = f a' ∧ P (i + 1) a', ct := fun en' => ∃ a', en' = f a' ∧ P (i + 1) a', bk := bk, rt := R.rt } en')
    (fin : ∀ a, P ds.length a → R.nx (f a)) : ForW g s1 ds R en := for_byB f P a0 he h0 (fun i d hd a h => turn i d hd a h R.nx) fin
/-- a comprehension whose test and item are a function of the item walked -/
theorem lc_fun {z : Bool} {g : DTG} {mt : DTT} {me : DTE} {vs : List Nat} {en : En} {Q : D → Prop} {ds : List D} (f : D → Option D)
    (hz : z = false → ds.length ≤ sizeLine) (h : ∀ d ∈ ds, ∀ P : Option D → Prop, P (f d) → g d (wipeE en vs) fun en' => mt en' fun b => Cnd b (me en' fun y => P (some y)) (P none)) (q : Q (.list (ds.filterMap f))) :
    LcW z g mt me vs ds en Q := by
  refine ⟨hz, fun i acc => acc = (ds.take i).filterMap f, rfl, fun i d acc e _ w => ?_, fun acc _ w => ?_⟩
  · subst w
    have hm : d ∈ ds := List.mem_of_getElem? e
    have et : (ds.take (i + 1)).filterMap f = (ds.take i).filterMap f ++ (f d).toList := by
      have e1 : List.filterMap f [d] = (f d).toList := by
        cases e : f d with
        | none => rw [List.filterMap_cons_none e]; rfl
        | some y => rw [List.filterMap_cons_some e]; rfl
      have e2 : ds.take (i + 1) = ds.take i ++ [d] := by rw [List.take_succ, e]; rfl
      rw [e2, List.filterMap_append, e1]
    have := h d hm (fun o => (ds.take i).filterMap f ++ o.toList = (ds.take (i + 1)).filterMap f) et.symm
    simp only [Option.toList, List.append_nil] at this
    exact this
  · have w : acc = (ds.take ds.length).filterMap f := w
    rw [List.take_length] at w
    subst w
    exact q
end Lay
namespace Lay
open PySem PySem.Spec L2
open PyProof.Rows hiding St

section
variable {X : Cx} {c : Ct} {e a b d : Expr} {es : List Expr} {m ma mb : DTE} {ml : DTA} {mt mu : DTT} {pos : Pos} {s1 : DTS}
theorem Reps.three {K : PySem.W.Frag} {F : Hp} {vs : List V} {d e f : D} (h : Reps K F vs [d, e, f]) : ∃ v u w, vs = [v, u, w] ∧ Rep K F v d ∧ Rep K F u e ∧ Rep K F w f := by
  cases h with
  | cons h1 h2 =>
    obtain ⟨u, w, rfl, h3, h4⟩ := h2.two
    exact ⟨_, _, _, rfl, h1, h3, h4⟩
/-- a, b, c = e1, e2, e3: three names at once -/
def par3 (i j l : Nat) (ds : List D) (en : En) (Q : En → Prop) : Prop := match ds with | [d, e, f] => Q (((en.set i (.val d)).set j (.val e)).set l (.val f)) | _ => False
def dPar3 (i j l : Nat) (ml : DTA) (R : DEnds) (en : En) : Prop := ml en fun ds => par3 i j l ds en R.nx
theorem ds_par3 {i j l : Nat} {x y z : Str} {px py pz pt : Pos} {kt k2 pt2} (hc : X.calm = true) (hN : X.N.Nodup) (hi : X.N[i]? = some x) (hj : X.N[j]? = some y) (hl : X.N[l]? = some z) (hij : i ≠ j) (hil : i ≠ l) (hjl : j ≠ l)
    (hx : X.env.scope.names.lookup x = some .local) (hy : X.env.scope.names.lookup y = some .local) (hz : X.env.scope.names.lookup z = some .local) (ha : DA X c [a, b, d] ml)
    (hw : swappedStores [.Tuple [.Name x px, .Name y py, .Name z pz] kt pt] (.Tuple [a, b, d] k2 pt2) X.env = pure (some [x, y, z]))
    (hs : swapsWithSole [.Tuple [.Name x px, .Name y py, .Name z pz] kt pt] (.Tuple [a, b, d] k2 pt2) pos.line X.env = pure false := by rfl) :
    DS X c (.Assign [.Tuple [.Name x px, .Name y py, .Name z pz] kt pt] (.Tuple [a, b, d] k2 pt2) pos) (dPar3 i j l ml) := by
  refine ⟨PS.imp (ps_par3 hc hN hi hj hl hij hil hjl hx hy hz ha.run hw hs) fun D σ H h => ?_⟩
  obtain ⟨F, en, R, r, h, k⟩ := h
  refine ⟨F, en, _, r, h, fun ds hd vs F' H' x rv hn => ?_⟩
  unfold par3 at hd
  split at hd
  · obtain ⟨v, u, w, rfl, r1, r2, r3⟩ := rv.three
    exact ⟨v, u, w, rfl, k.nx _ _ F' H' hd ((((r.grow x).set r1).set r2).set r3) x.ff⟩
  · exact hd.elim
theorem spar3 (i j l : Nat) {x y z : Str} {px py pz pt : Pos} {kt k2 pt2} (hN : X.N.Nodup) (ha : DA X c [a, b, d] ml) (hc : X.calm = true := by rfl) (hi : X.N[i]? = some x := by rfl) (hj : X.N[j]? = some y := by rfl) (hl : X.N[l]? = some z := by rfl) (hij : i ≠ j := by decide) (hil : i ≠ l := by decide) (hjl : j ≠ l := by decide)
    (hx : X.env.scope.names.lookup x = some .local := by rfl) (hy : X.env.scope.names.lookup y = some .local := by rfl) (hz : X.env.scope.names.lookup z = some .local := by rfl)
    (hw : swappedStores [.Tuple [.Name x px, .Name y py, .Name z pz] kt pt] (.Tuple [a, b, d] k2 pt2) X.env = pure (some [x, y, z]) := by rfl)
    (hs : swapsWithSole [.Tuple [.Name x px, .Name y py, .Name z pz] kt pt] (.Tuple [a, b, d] k2 pt2) pos.line X.env = pure false := by rfl) :
    DS X c (.Assign [.Tuple [.Name x px, .Name y py, .Name z pz] kt pt] (.Tuple [a, b, d] k2 pt2) pos) (dPar3 i j l ml) := ds_par3 hc hN hi hj hl hij hil hjl hx hy hz ha hw hs
theorem par3_three {i j l : Nat} {d e f : D} {en : En} {K : En → Prop} : par3 i j l [d, e, f] en K = K (((en.set i (.val d)).set j (.val e)).set l (.val f)) := rfl

def sortedD : DC := fun ds Q => match ds with | [.list xs] => (match intsOf xs with | some ns => ∀ ns' : List Int, ns'.Perm ns → ns'.Pairwise (· ≤ ·) → Q (.list (ns'.map .int)) | none => False) | _ => False
theorem sv_sorted {K : PySem.W.Frag} : ServesC K c (rSortedI K) sortedD := by
  intro F H vs ds R Q ex rv h k
  unfold sortedD at h
  split at h
  · split at h
    · rename_i ns q
      obtain ⟨v, rfl, r1⟩ := rv.one
      obtain ⟨p, ys, rfl, g1, g2, g3⟩ := r1.lstI
      rw [intsOf_eq q] at g2
      have e := g2.ints_inv
      subst e
      refine ⟨p, ns, rfl, SqL.of (ex.fh _ _ g1), fun ns' l hp hs hl => ?_⟩
      have g3' : (ns'.map PyData.int).length ≤ sizeLine := by
        rw [List.length_map, hp.length_eq]
        have := intsOf_eq q
        subst this
        rw [List.length_map] at g3
        exact g3
      obtain ⟨y1, y2⟩ := newLst ex hl (Reps.ints (F := F) (K := K) ns') g3'
      exact k _ (h ns' hp hs) _ _ _ y1 y2
    · exact h.elim
  · exact h.elim
theorem de_sorted {p : Pos} (hg : Gl X "sorted" := by rfl) (hm : X.mg "sorted" = none) (ha : DA X c [a] ml) (he : starEach [a] X.env = (false, eval a X.env) :: starEach [] X.env := by rfl) (hpl : (backTo pos (starEach [] X.env)).any (·.1) = false := by rfl) : DE X c (.Call (.Name "sorted" p) [a] [] pos) (dB sortedD ml) :=
  de_callB cr_sortedI sv_sorted hg hm boot_sorted ha (by decide) (by decide) he hpl
theorem sortedD_ints {ns : List Int} {Q : D → Prop} : sortedD [.list (ns.map .int)] Q = ∀ ns' : List Int, ns'.Perm ns → ns'.Pairwise (· ≤ ·) → Q (.list (ns'.map .int)) := by
  unfold sortedD
  simp only [intsOf_map]

theorem Reps.rev {K : PySem.W.Frag} {F : Hp} : ∀ {ds : List D} {vs : List V}, Reps K F vs ds → Reps K F vs.reverse ds.reverse
  | [], _, h => by cases h; exact .nil
  | d :: ds, _, h => by
    cases h with
    | cons h1 h2 =>
      rw [List.reverse_cons, List.reverse_cons]
      exact (Reps.rev h2).append (.cons h1 .nil)

theorem memD_int {n : Int} : ∀ ns : List Int, memD (.int n) (ns.map .int) = decide (n ∈ ns)
  | [] => rfl
  | k :: ns => by
    have q := memD_int (n := n) ns
    unfold memD at q ⊢
    rw [List.map_cons, List.any_cons, q]
    by_cases h : k = n
    · subst h; simp [eqv_int]
    · have h' : ¬ n = k := fun z => h z.symm
      simp [eqv_int, h, h']
theorem flat_ints : ∀ ns : List Int, (ns.map PyData.int).all flatD = true
  | [] => rfl
  | n :: ns => by rw [List.map_cons, List.all_cons, flat_ints ns]; rfl
theorem in_tup {neg : Bool} {n : Int} (ns : List Int) {Q : D → Prop} (h : Q (.bool (if neg then !decide (n ∈ ns) else decide (n ∈ ns)))) : inD neg (.int n) (.tuple (ns.map .int)) Q := by
  show (flatD (.int n) = true ∧ _) ∧ _
  refine ⟨⟨rfl, flat_ints ns⟩, ?_⟩
  rw [memD_int]; exact h
theorem in_lst {neg : Bool} {n : Int} (ns : List Int) {Q : D → Prop} (h : Q (.bool (if neg then !decide (n ∈ ns) else decide (n ∈ ns)))) : inD neg (.int n) (.list (ns.map .int)) Q := by
  show (flatD (.int n) = true ∧ _) ∧ _
  refine ⟨⟨rfl, flat_ints ns⟩, ?_⟩
  rw [memD_int]; exact h
end
end Lay
namespace Lay
open PySem PySem.Spec L2
open PyProof.Rows hiding St
theorem rangeD_ints (lo : Int) (n : Nat) : rangeD lo n = ((List.range n).map fun (i : Nat) => lo + (i : Int)).map .int := by
  unfold rangeD
  rw [List.map_map]
  rfl
section
variable {z : Bool} {g : DTG} {mt : DTT} {me : DTE} {vs : List Nat} {en : En} {Q : D → Prop}
/-- a comprehension that leaves all out -/
theorem lc_none {ds : List D} (hz : z = false → ds.length ≤ sizeLine) (h : ∀ d ∈ ds, ∀ P : Option D → Prop, P none → g d (wipeE en vs) fun en' => mt en' fun b => Cnd b (me en' fun y => P (some y)) (P none)) (q : Q (.list [])) : LcW z g mt me vs ds en Q := by
  refine lc_fun (fun _ => none) hz h ?_
  have e : List.filterMap (fun _ : D => (none : Option D)) ds = [] := by
    induction ds with
    | nil => rfl
    | cons d ds ih =>
      rw [List.filterMap_cons_none rfl]
      exact ih (fun h' => by have := hz h'; simp only [List.length_cons] at this; omega) fun d hd => h d (List.mem_cons_of_mem _ hd)
  rw [e]
  exact q
/-- over things that are told by a function -/
theorem lc_map {α β : Type} {xs : List α} (f : α → D) (k : β → D) (p : α → Option β) (hz : z = false → xs.length ≤ sizeLine)
    (h : ∀ x ∈ xs, ∀ P : Option D → Prop, P ((p x).map k) → g (f x) (wipeE en vs) fun en' => mt en' fun b => Cnd b (me en' fun y => P (some y)) (P none)) (q : Q (.list ((xs.filterMap p).map k))) : LcW z g mt me vs (xs.map f) en Q := by
  refine ⟨fun e => by rw [List.length_map]; exact hz e, fun i acc => acc = ((xs.take i).filterMap p).map k, rfl, fun i d acc e _ w => ?_, fun acc _ w => ?_⟩
  · subst w
    rw [List.getElem?_map] at e
    obtain ⟨x, ex, rfl⟩ := Option.map_eq_some_iff.mp e
    have hm : x ∈ xs := List.mem_of_getElem? ex
    have et : ((xs.take (i + 1)).filterMap p).map k = ((xs.take i).filterMap p).map k ++ ((p x).map k).toList := by
      have e1 : List.filterMap p [x] = (p x).toList := by
        cases e : p x with
        | none => rw [List.filterMap_cons_none e]; rfl
        | some y => rw [List.filterMap_cons_some e]; rfl
      have e2 : xs.take (i + 1) = xs.take i ++ [x] := by rw [List.take_succ, ex]; rfl
      rw [e2, List.filterMap_append, e1, List.map_append]
      cases p x <;> rfl
    have := h x hm (fun o => ((xs.take i).filterMap p).map k ++ o.toList = ((xs.take (i + 1)).filterMap p).map k) et.symm
    simp only [Option.toList, List.append_nil] at this
    exact this
  · subst w
    rw [List.length_map, List.take_length]
    exact q
/-- the ints that pass -/
theorem lc_ints {ns : List Int} (p : Int → Bool) (hz : z = false → ns.length ≤ sizeLine)
    (h : ∀ n ∈ ns, ∀ P : Option D → Prop, P (if p n then some (.int n) else none) → g (.int n) (wipeE en vs) fun en' => mt en' fun b => Cnd b (me en' fun y => P (some y)) (P none)) (q : Q (.list ((ns.filter p).map .int))) : LcW z g mt me vs (ns.map .int) en Q := by
  refine lc_map (p := fun n => if p n then some n else none) .int .int hz (fun n hn P hP => h n hn P ?_) ?_
  · cases e : p n <;> (rw [e] at hP; exact hP)
  · have e : ∀ l : List Int, l.filterMap (fun n => if p n then some n else none) = l.filter p := fun l => by
      induction l with
      | nil => rfl
      | cons n l ih =>
        cases e : p n
        · rw [List.filterMap_cons_none (by simp [e]), List.filter_cons_of_neg (by simp [e]), ih]
        · rw [List.filterMap_cons_some (by simp [e] : _ = some n), List.filter_cons_of_pos e, ih]
    rw [e]
    exact q
end
theorem one_nat : ((1 : Nat) : Int) = 1 := rfl
theorem two_nat : ((2 : Nat) : Int) = 2 := rfl
theorem three_nat : ((3 : Nat) : Int) = 3 := rfl
theorem atI_ofNat {α : Type} {xs : List α} {i : Nat} (h : i < xs.length) : atI xs (i : Int) = some xs[i] := atI_nat (List.getElem?_eq_getElem h)
theorem ix_map {α : Type} {xs : List α} {f : α → D} {i : Nat} {Q : D → Prop} (h : i < xs.length) (q : Q (f xs[i])) : optD (atI (xs.map f) (i : Int)) Q := by
  rw [atI_nat (v := f xs[i]) (by rw [List.getElem?_map, List.getElem?_eq_getElem h]; rfl)]
  exact q
theorem ix_mapI {α : Type} {xs : List α} {f : α → D} {i : Int} {Q : D → Prop} (h0 : 0 ≤ i) (h : i < xs.length) (q : Q (f (xs[i.toNat]'(by omega)))) : optD (atI (xs.map f) i) Q := by
  have e : i = ((i.toNat : Nat) : Int) := by omega
  rw [e]
  exact ix_map (by omega) q
/-- [] or not, of ints -/
theorem eqv_ints_nil : ∀ ns : List Int, PyData.eqv (.list (ns.map .int)) (.list []) = ns.isEmpty
  | [] => rfl
  | n :: ns => rfl
end Lay
namespace Lay
open PySem PySem.Spec L2 HT
open PyProof.Rows hiding St
section
variable {prog : Program} {w : World} {A : Around} {E : Value → Shared → Prop} {s : Shared}
theorem adjust_rev (n : Nat) : Builtin.Slice.sliceAdjust none none (-1) (n : Int) = ((n : Int) - 1, -1) := rfl
theorem places_rev (n : Nat) : Builtin.Slice.slicePlaces ((n : Int) - 1) (-1) (-1) = n := by
  unfold Builtin.Slice.slicePlaces
  have h1 : ¬ ((-1 : Int) > 0) := by omega
  simp only [h1, if_false]
  rw [show (-(-1) : Int) = 1 from rfl, Int.ediv_one]
  split <;> omega
theorem pick_rev (xs : Array Value) : ((List.range xs.size).filterMap fun (m : Nat) => xs[(((xs.size : Int) - 1) + (m : Int) * (-1)).toNat]?).toArray = xs.toList.reverse.toArray := by
  congr 1
  have key : ∀ k : Nat, k ≤ xs.size → ((List.range k).filterMap fun (m : Nat) => xs[(((xs.size : Int) - 1) + (m : Int) * (-1)).toNat]?) = xs.toList.reverse.take k := by
    intro k
    induction k with
    | zero => intro _; rfl
    | succ k ih =>
      intro hk
      rw [List.range_succ, List.filterMap_append, ih (by omega), List.take_succ]
      congr 1
      have e : (((xs.size : Int) - 1) + (k : Int) * (-1)).toNat = xs.size - 1 - k := by omega
      have e2 : xs.toList.reverse[k]? = xs[xs.size - 1 - k]? := by
        rw [List.getElem?_reverse (by simp; omega)]
        simp
      rw [e2]
      simp only [List.filterMap_cons, List.filterMap_nil, e]
      cases xs[xs.size - 1 - k]? <;> rfl
  rw [key xs.size (Nat.le_refl _)]
  exact List.take_of_length_le (by simp)
theorem sliceApplied_rev {sl : Addr} {vl vu vs : Value} {n : Nat} {Q : Int × Int × Nat → Shared → Prop} (hs : s.heap.IsSliceOf sl vl vu vs) (pl : IsPart vl none) (pu : IsPart vu none) (ps : IsPart vs (some (-1)))
    (h : Q ((n : Int) - 1, -1, n) s) : wpAny (model prog w) A (Builtin.Slice.sliceApplied (.ref sl) (pure (n : Int))) Q E s := by
  obtain ⟨os, hos, hcs, hds⟩ := id hs
  unfold Builtin.Slice.sliceApplied Builtin.Slice.sliceFields
  refine wpAny_bind (wpAny_bind (wpAny_field hos hds (x := vl) rfl (wpAny_bind (wpAny_field hos hds (x := vu) rfl (wpAny_bind (wpAny_field hos hds (x := vs) rfl (wpAny_pure ?_)))))))
  refine wpAny_bind (slicePart_ ps ?_)
  show wpAny _ _ (if ((-1 : Int) == 0) = true then _ else _) _ _ s
  rw [if_neg (by decide)]
  refine wpAny_bind (slicePart_ pl (wpAny_bind (slicePart_ pu (wpAny_bind (wpAny_pure ?_)))))
  show wpAny _ _ (match Builtin.Slice.sliceAdjust none none (-1) (n : Int) with | (lo, hi) => pure (lo, (-1 : Int), Builtin.Slice.slicePlaces lo hi (-1))) _ _ s
  rw [adjust_rev]
  show wpAny _ _ (pure ((n : Int) - 1, (-1 : Int), Builtin.Slice.slicePlaces ((n : Int) - 1) (-1) (-1))) _ _ s
  rw [places_rev]
  exact wpAny_pure h
theorem getItem_tuple_rev {t sl : Addr} {items : Array Value} {vl vu vs : Value} {Q : Value → Shared → Prop} (ht : IsTup s.heap t items) (hs : s.heap.IsSliceOf sl vl vu vs) (pl : IsPart vl none) (pu : IsPart vu none) (ps : IsPart vs (some (-1)))
    (h : Q (.ref s.heap.objs.size) { s with heap := s.heap.push { cls := .type "tuple", data := .seq items.toList.reverse.toArray } })
    (hsz : items.size ≤ sizeLine) : wpAny (model prog w) A (getItem (.ref t) (.ref sl)) Q E s := by
  have htake : sizeOk (.seq items.toList.reverse.toArray) := by
    show items.toList.reverse.toArray.size ≤ sizeLine
    rw [List.size_toArray, List.length_reverse, Array.length_toList]
    exact hsz
  obtain ⟨os, hos, hcs, hds⟩ := id hs
  have hTs : s.TypeIs (.ref sl) "slice" := ⟨os, hos, hcs⟩
  unfold getItem
  try with_reducible refine wpAny_holding ?_
  first | refine wpAny_bind (wpAny_pure ?_) | skip
  refine wpAny_bind (wpAny_sequenceKey ht.typeIs (by decide) ?_)
  refine wpAny_bind (wpAny_callSpecial?_slot (name := Str.ofString "__getitem__") ht.typeIs PyProof.Rows.slot_tuple_getitem
    (wpAny_call_entry PyProof.Rows.slot_tuple_getitem ht.typeIs entry_tuple_getitem ?_ (args_tuple_getitem _ _)))
  show wpAny _ _ (Builtin.Tuple.tupleItemsOf (.ref t) >>= _) _ _ s
  refine wpAny_bind (tupleItemsOf_ ht ?_)
  refine wpAny_bind (wpAny_typeOf hTs ?_)
  rw [if_pos (by decide)]
  refine wpAny_bind (sliceApplied_rev hs pl pu ps ?_)
  have hno : ¬ ((((items.size : Int) - 1) == 0 && (-1 : Int) == 1 && items.size == items.size) = true) := by
    intro q
    rw [Bool.and_eq_true, Bool.and_eq_true] at q
    exact absurd q.1.2 (by decide)
  show wpAny _ _ (if (((items.size : Int) - 1) == 0 && (-1 : Int) == 1 && items.size == items.size) = true then _ else _) _ _ s
  rw [if_neg hno, pick_rev]
  first
    | exact wpAny_bind (m := Builtin.Tuple.tupleExact _) (wpAny_newObj_type (wpAny_pure ⟨_, rfl, wpAny_pure h⟩) htake)
    | exact wpAny_bind (m := Builtin.Tuple.tupleExact _) (wpAny_newObj_type (wpAny_bind (wpAny_pure (wpAny_pure ⟨_, rfl, wpAny_pure h⟩))) htake)
    | exact wpAny_bind (wpAny_bind (m := Builtin.Tuple.tupleExact _) (wpAny_newObj_type (wpAny_pure (wpAny_pure ⟨_, rfl, wpAny_pure h⟩)) htake))
    | exact wpAny_bind (wpAny_bind (m := Builtin.Tuple.tupleExact _) (wpAny_newObj_type (wpAny_pure ⟨_, rfl, wpAny_pure h⟩) htake))
end
/-- xs[::-1], a list or a tuple -/
def tRev2 (K : PySem.W.Frag) (te : TE) : TE := fun σ H Q => te σ H fun x H1 => ∃ a xs, x = .ref a ∧ ((SqL K H1 a xs ∧ ∀ p, H1 p = none → Q (.ref p) (upd H1 p (.lst xs.reverse))) ∨ (SqT K H1 a xs ∧ ∀ p, H1 p = none → Q (.ref p) (upd H1 p (.tup xs.reverse))))
section
variable {X : Cx}
theorem pe_rev2 {e : Expr} {te : TE} {k : Nat} {p1 p2 p3 pos : Pos} (he : PE X e te) : PE X (.Subscript e (.Slice none none (some (.UnaryOp .USub (.Constant (.int 1) k p1) p2)) p3) pos) (tRev2 X.K te) := by
  refine ⟨fun pins s σ H Q I h => ?_⟩
  refine Subscript_ (thn (he.run pins s σ H _ I h) fun v s1 ⟨x, H1, I1, r1, q1⟩ => ?_)
  obtain ⟨a, xs, ex, q⟩ := q1
  subst ex
  cases r1
  have hst : PO X (some (.UnaryOp .USub (.Constant (.int 1) k p1) p2)) (tPart (tUn (rU fun i => .int (-i)) (tC (.int 1)))) := po_some (pe_un un_neg pe_int)
  refine wpAny_Slice (thn (po_none.run pins s1 σ H1 (fun o H2 => o = none ∧ H2 = H1) I1 ⟨rfl, rfl⟩) fun vl s2 ⟨l, H2, I2, pl, el, e2⟩ => ?_)
  subst el e2
  refine thn (po_none.run pins s2 σ H2 (fun o H3 => o = none ∧ H3 = H2) I2 ⟨rfl, rfl⟩) fun vu s3 ⟨u, H3, I3, pu, eu, e3⟩ => ?_
  subst eu e3
  refine thn (hst.run pins s3 σ H3 (fun o H4 => o = some (-1) ∧ H4 = H3) I3 ⟨1, rfl, -1, rfl, rfl, rfl⟩) fun vs s4 ⟨o, H4, I4, ps, eo, e4⟩ => ?_
  subst eo e4
  have I5 : Inv X pins σ H4 { s4 with heap := s4.heap.push { cls := .type "slice", data := .fields #[vl, vu, vs] } } := I4.kept (t' := s4.toks) fun b ob q => Heap.get?_push_of_some _ q
  show wpAny (model X.prog X.w) X.A (subscriptTail e (.Slice none none (some (.UnaryOp .USub (.Constant (.int 1) k p1) p2)) p3) (.ref a) (.ref s4.heap.objs.size)) (EP X pins σ Q) X.xe { s4 with heap := s4.heap.push { cls := .type "slice", data := .fields #[vl, vu, vs] } }
  rcases q with ⟨hx, q⟩ | ⟨hx, q⟩
  · obtain ⟨its, r, ht, hz⟩ := I5.list hx
    have hlen := r.length
    refine tail_any (ops := [.ref a, .ref s4.heap.objs.size]) ht.isList.typeIs (PySem.slot_list_getitem.lookup) ?_ (by with_unfolding_all rfl)
    refine wpAny_getItem_list_slice ht.isList (Heap.IsSliceOf.new _ vl vu vs) pl pu ps (by decide) ?_ (by rw [List.size_toArray]; omega)
    rw [PySem.W.krv_pick]
    refine ⟨.ref _, _, I5.laid (t' := s4.toks) (o := .lst xs.reverse) (fun b ob q => Heap.get?_push_of_some _ q) (Nat.le_refl _) ?_, rfl, q _ (I5.hok.fresh (Nat.le_refl _))⟩
    exact ⟨by rw [List.length_reverse]; exact hz, _, 0, r.reverse, Heap.get?_push_size _ rfl⟩
  · obtain ⟨its, r, ht, hz⟩ := I5.tuple hx
    have hlen := r.length
    refine tail_any (ops := [.ref a, .ref s4.heap.objs.size]) ht.typeIs (PyProof.Rows.slot_tuple_getitem.lookup) ?_ (by with_unfolding_all rfl)
    refine getItem_tuple_rev ht (Heap.IsSliceOf.new _ vl vu vs) pl pu ps ?_ (by rw [List.size_toArray]; omega)
    refine ⟨.ref _, _, I5.laid (t' := s4.toks) (o := .tup xs.reverse) (fun b ob q => Heap.get?_push_of_some _ q) (Nat.le_refl _) ?_, rfl, q _ (I5.hok.fresh (Nat.le_refl _))⟩
    exact ⟨by rw [List.length_reverse]; exact hz, _, r.reverse, IsTup.new _ _⟩
end
def revD (d : D) (Q : D → Prop) : Prop := match d with | .list ds => Q (.list ds.reverse) | .tuple ds => Q (.tuple ds.reverse) | _ => False
def dRev (m : DTE) (en : En) (Q : D → Prop) : Prop := m en fun d => revD d Q
theorem revD_lst {ds : List D} {Q : D → Prop} : revD (.list ds) Q = Q (.list ds.reverse) := rfl
theorem revD_tup {ds : List D} {Q : D → Prop} : revD (.tuple ds) Q = Q (.tuple ds.reverse) := rfl
theorem de_rev {X : Cx} {c : Ct} {e : Expr} {m : DTE} {pos : Pos} {k : Nat} {p1 p2 p3 : Pos} (he : DE X c e m) : DE X c (.Subscript e (.Slice none none (some (.UnaryOp .USub (.Constant (.int 1) k p1) p2)) p3) pos) (dRev m) := by
  refine ⟨PE.imp (pe_rev2 he.run) fun σ H Q h => ?_⟩
  obtain ⟨F, en, R, r, h, k⟩ := h
  refine ⟨F, en, _, r, h, fun d hd v F1 H1 x1 rv => ?_⟩
  unfold revD at hd
  split at hd
  · obtain ⟨p, ys, rfl, g1, g2, g3⟩ := rv.lstI
    refine ⟨p, ys, rfl, .inl ⟨SqL.of (x1.fh _ _ g1), fun t ht => ?_⟩⟩
    obtain ⟨y1, y2⟩ := newLst (c := c) x1.self ht g2.rev (by rw [List.length_reverse]; exact g3)
    exact k _ hd _ _ _ (x1.trans y1) y2
  · obtain ⟨p, ys, rfl, g1, g2, g3⟩ := rv.tupI
    refine ⟨p, ys, rfl, .inr ⟨sqT_mono x1.fh g1, fun t ht => ?_⟩⟩
    obtain ⟨y1, y2⟩ := newTup (c := c) x1.self ht g2.rev (by rw [List.length_reverse]; exact g3)
    exact k _ hd _ _ _ (x1.trans y1) y2
  · exact hd.elim
end Lay
namespace Lay
open PySem PySem.Spec L2
open PyProof.Rows hiding St
section
variable {X : Cx} {c : Ct} {mt : DTT} {pos : Pos}
theorem ssetLc (i : Nat) {y : Str} {py : Pos} {elt tg iter : Expr} {ifs : List Expr} {scope : Scope} {own : List (Str × Nat)} {sl : List Nat} {z : Bool} {mi : DTA} {g : DTG} {me : DTE} {spos : Pos} (hN : X.N.Nodup)
    (hi : DI X c tg iter z mi) (ok : BlkOk X.N X.env.scope scope own)
    (hg : ∀ (s : Shared) (H : Hp) (C : Addr) (cl : List (Str × Addr)) (fp : List Addr), DG (X.blk s H scope (compEnvC scope cl C X.env) fp) c tg sl g) (ht : ∀ (s : Shared) (H : Hp) (C : Addr) (cl : List (Str × Addr)) (fp : List Addr), DTs (X.blk s H scope (compEnvC scope cl C X.env) fp) c ifs mt)
    (he : ∀ (s : Shared) (H : Hp) (C : Addr) (cl : List (Str × Addr)) (fp : List Addr), DE (X.blk s H scope (compEnvC scope cl C X.env) fp) c elt me)
    (hc : X.calm = true := by rfl) (hy : X.N[i]? = some y := by rfl) (hyl : X.env.scope.names.lookup y = some .local := by rfl)
    (hsw : swapsWith (.ListComp elt [⟨tg, iter, ifs, 0⟩] scope pos) (some (.Name y py)) spos.line X.env = pure true := by rfl)
    (hsl : ∀ i ∈ sl, i ∈ own.map (·.2) := by decide) (hs : ∀ x, foldedSetIterable iter X.env x = pure x := by intro _; rfl) :
    DS X c (.Assign [.Name y py] (.ListComp elt [⟨tg, iter, ifs, 0⟩] scope pos) spos) (dAsg (dLc z mi g mt me (own.map (·.2))) (gNm i)) := ds_setLc hc hN hy hyl hsw hi ok hg ht he hsl hs
end
end Lay
namespace Lay
open PySem PySem.Spec L2 RZ
open PyProof.Rows hiding St
def zipD (xs ys : List D) : List D := List.zipWith (fun d e => .tuple [d, e]) xs ys
def zip2D (ds : List D) (Q : List D → Prop) : Prop := match ds with
  | [.list xs, .list ys] => Q (zipD xs ys)
  | [.tuple xs, .tuple ys] => Q (zipD xs ys)
  | _ => False
def dZip2 (ml : DTA) (en : En) (Q : List D → Prop) : Prop := ml en fun ds => zip2D ds Q
theorem zipD_get {xs ys : List D} {i : Nat} {d : D} (h : (zipD xs ys)[i]? = some d) : ∃ e f, d = .tuple [e, f] ∧ xs[i]? = some e ∧ ys[i]? = some f := by
  unfold zipD at h
  rw [List.getElem?_zipWith] at h
  cases e1 : xs[i]? with
  | none => rw [e1] at h; cases h
  | some e =>
    cases e2 : ys[i]? with
    | none => rw [e1, e2] at h; cases h
    | some f =>
      rw [e1, e2] at h
      cases h
      exact ⟨e, f, rfl, rfl, rfl⟩
section
variable {K : PySem.W.Frag} {wo : Option (Addr × Addr)} {F : Hp} {p q : Addr} {xs ys : List V} {ds es : List D}
theorem dwalk_zipL (hp : F p = some (.lst xs)) (hq : F q = some (.lst ys)) (r : Reps K F xs ds) (s : Reps K F ys es) : DWalk K wo (Itz K p q) F (zipD ds es) where
  go := fun i d F' H hF x e => by
    obtain ⟨d1, d2, rfl, e1, e2⟩ := zipD_get e
    obtain ⟨v, h1, _⟩ := r.get e1
    obtain ⟨u, h2, _⟩ := s.get e2
    exact ⟨xs, ys, v, u, SqL.of (x.fh _ _ (hF _ _ hp)), SqL.of (x.fh _ _ (hF _ _ hq)), h1, h2⟩
  yld := fun i d F' H x H' hF ex e y => by
    obtain ⟨d1, d2, rfl, e1, e2⟩ := zipD_get e
    obtain ⟨T, a, b, rfl, hT, rfl, g1, g2⟩ := y
    obtain ⟨v, h1, r1⟩ := r.get e1
    obtain ⟨u, h2, r2⟩ := s.get e2
    have q1 := g1 xs (SqL.of (ex.fh _ _ (hF _ _ hp)))
    have q2 := g2 ys (SqL.of (ex.fh _ _ (hF _ _ hq)))
    rw [h1] at q1
    rw [h2] at q2
    cases q1
    cases q2
    obtain ⟨y1, y2⟩ := newTup (c := ⟨wo, F', H⟩) ex hT (.cons (Rep.mono hF _ _ r1) (.cons (Rep.mono hF _ _ r2) .nil)) (by show 2 ≤ sizeLine; decide)
    exact ⟨_, y1, y2⟩
  stop := fun F' H hF x => ⟨xs, ys, SqL.of (x.fh _ _ (hF _ _ hp)), SqL.of (x.fh _ _ (hF _ _ hq)), by
    unfold zipD
    rw [List.length_zipWith, r.len, s.len]
    omega⟩
theorem dwalk_zipT (hp : SqT K F p xs) (hq : SqT K F q ys) (r : Reps K F xs ds) (s : Reps K F ys es) : DWalk K wo (ItzT K p q) F (zipD ds es) where
  go := fun i d F' H hF x e => by
    obtain ⟨d1, d2, rfl, e1, e2⟩ := zipD_get e
    obtain ⟨v, h1, _⟩ := r.get e1
    obtain ⟨u, h2, _⟩ := s.get e2
    exact ⟨xs, ys, v, u, sqT_mono x.fh (sqT_mono hF hp), sqT_mono x.fh (sqT_mono hF hq), h1, h2⟩
  yld := fun i d F' H x H' hF ex e y => by
    obtain ⟨d1, d2, rfl, e1, e2⟩ := zipD_get e
    obtain ⟨T, a, b, rfl, hT, rfl, g1, g2⟩ := y
    obtain ⟨v, h1, r1⟩ := r.get e1
    obtain ⟨u, h2, r2⟩ := s.get e2
    have q1 := g1 xs (sqT_mono ex.fh (sqT_mono hF hp))
    have q2 := g2 ys (sqT_mono ex.fh (sqT_mono hF hq))
    rw [h1] at q1
    rw [h2] at q2
    cases q1
    cases q2
    obtain ⟨y1, y2⟩ := newTup (c := ⟨wo, F', H⟩) ex hT (.cons (Rep.mono hF _ _ r1) (.cons (Rep.mono hF _ _ r2) .nil)) (by show 2 ≤ sizeLine; decide)
    exact ⟨_, y1, y2⟩
  stop := fun F' H hF x => ⟨xs, ys, sqT_mono x.fh (sqT_mono hF hp), sqT_mono x.fh (sqT_mono hF hq), by
    unfold zipD
    rw [List.length_zipWith, r.len, s.len]
    omega⟩
end
theorem di_zip2 {X : Cx} {c : Ct} {a b : Expr} {ml : DTA} {p pos tpos : Pos} {elts : List Expr} {kk : Nat} (hm : X.mg "zip" = none) (ha : DA X c [a, b] ml) (hg : Gl X "zip" := by rfl) (hs : starEach [a, b] X.env = (false, eval a X.env) :: starEach [b] X.env := by rfl) (hpl : (backTo pos (starEach [b] X.env)).any (·.1) = false := by rfl) :
    DI X c (.Tuple elts kk tpos) (.Call (.Name "zip" p) [a, b] [] pos) true (dZip2 ml) := by
  refine ⟨PI.imp (pi_zipA hg hm ha.run hs hpl) fun σ H Q h => ?_⟩
  obtain ⟨F, en, R, r, h, k⟩ := h
  refine ⟨F, en, _, r, h, fun ds hd vs F' H' x rv _ => ?_⟩
  unfold zip2D at hd
  split at hd
  · obtain ⟨v, u, rfl, r1, r2⟩ := rv.two
    obtain ⟨p1, xs, rfl, g1, g2, g3⟩ := r1.lstI
    obtain ⟨p2, ys, rfl, k1, k2, k3⟩ := r2.lstI
    exact ⟨p1, p2, xs, ys, rfl, .inl ⟨SqL.of (x.fh _ _ g1), SqL.of (x.fh _ _ k1), k _ hd _ F' H' x (dwalk_zipL g1 k1 g2 k2) fun _ => by unfold zipD; rw [List.length_zipWith]; omega⟩⟩
  · obtain ⟨v, u, rfl, r1, r2⟩ := rv.two
    obtain ⟨p1, xs, rfl, g1, g2, g3⟩ := r1.tupI
    obtain ⟨p2, ys, rfl, k1, k2, k3⟩ := r2.tupI
    exact ⟨p1, p2, xs, ys, rfl, .inr ⟨sqT_mono x.fh g1, sqT_mono x.fh k1, k _ hd _ F' H' x (dwalk_zipT g1 k1 g2 k2) fun _ => by unfold zipD; rw [List.length_zipWith]; omega⟩⟩
  · exact hd.elim
theorem zip2D_lst {xs ys : List D} {Q : List D → Prop} : zip2D [.list xs, .list ys] Q = Q (zipD xs ys) := rfl
theorem zip2D_tup {xs ys : List D} {Q : List D → Prop} : zip2D [.tuple xs, .tuple ys] Q = Q (zipD xs ys) := rfl
end Lay
namespace Lay
open PySem PySem.Spec L2
open PyProof.Rows hiding St
theorem Reps.setD {K : PySem.W.Frag} {F : Hp} {v : V} {d : D} (hd : Rep K F v d) : ∀ {ds : List D} {vs : List V} {j : Nat}, Reps K F vs ds → Reps K F (vs.set j v) (ds.set j d)
  | [], _, j, h => by cases h; exact .nil
  | e :: ds, _, 0, h => by
    cases h with
    | cons h1 h2 => exact .cons hd h2
  | e :: ds, _, j + 1, h => by
    cases h with
    | cons h1 h2 => exact .cons h1 (Reps.setD hd h2)
/-- x[e] = e2, x a list of the def's own -/
def dPut (i : Nat) (m mv : DTE) (R : DEnds) (en : En) : Prop := mv en fun d => onOwn (gt en i) fun xs => m en fun k => onInt k fun k => ∃ j, ixN xs.length k = some j ∧ R.nx (en.set i (.own (xs.set j d)))
section
variable {X : Cx} {c : Ct} {e a b : Expr} {m mv ma mb : DTE} {pos : Pos}
theorem sput (i : Nat) {x : Str} {px p2 : Pos} (hi : DE X c b m) (hv : DE X c e mv) (hN : X.N[i]? = some x := by rfl) (hvis : Vis X.env.scope x := by first | exact Or.inl rfl | exact Or.inr (Or.inl rfl) | exact Or.inr (Or.inr rfl)) (hd : (x == ("__debug__" : Str)) = false := by decide) (hcd : (x == ("__classdict__" : Str)) = false := by decide)
    (ha : ∀ v, assign (.Subscript (.Name x px) b p2) X.env v = (do
      let ov ← holding [v] (eval (.Name x px) X.env)
      let iv ← holding [v, ov] (eval b X.env)
      standAt p2
      holding [v, ov, iv] (setItem ov iv v)
      release [v, ov, iv] []) := by intro _; rfl)
    (hs : swapsWithSole [.Subscript (.Name x px) b p2] e pos.line X.env = pure false := by rfl) (hw : swappedStores [.Subscript (.Name x px) b p2] e X.env = pure none := by rfl)
    (h1 : (assignEach [.Subscript (.Name x px) b p2] X.env).map (·.2) = [assign (.Subscript (.Name x px) b p2) X.env] := by rfl) :
    DS X c (.Assign [.Subscript (.Name x px) b p2] e pos) (dPut i m mv) := by
  refine ⟨PS.imp (ps_asg hv.run (pg_sub (pe_var hN hvis hd hcd) hi.run set_list ha) hs hw h1) fun D σ H h => ?_⟩
  obtain ⟨F, en, R, r, h, k⟩ := h
  refine ⟨F, en, _, r, h, fun d hd v F1 H1 x1 rv => ?_⟩
  unfold onOwn at hd
  split at hd
  · rename_i xs hg
    have hen := gt_get hg (fun z => nomatch z)
    have g := r.grow x1
    obtain ⟨ov, e1, p, vs, e2, e3, e4, e5⟩ := g.sl i _ hen
    subst e2
    refine ⟨_, e1, F1, en, _, g, hd, fun kd hk kv F2 H2 x2 rk => ?_⟩
    cases kd with
    | int n =>
      cases rk
      obtain ⟨j, hj, hk⟩ := hk
      have g2 := g.grow x2
      have ha : ownAt σ en i p := ⟨e1, _, hen, rfl⟩
      have e3' := x2.hh _ _ e3 (g.notW ha)
      have e4' := Reps.mono x2.ff _ _ e4
      have rv' := Rep.mono x2.ff _ _ rv
      refine ⟨p, vs, n, j, rfl, rfl, e3', by rw [e4.len]; exact hj, ?_⟩
      refine k.nx _ _ F2 _ hk (g2.turn ha ⟨p, _, rfl, upd_same, Reps.setD rv' e4', ?_⟩) (fun b o q => x2.ff _ _ (x1.ff _ _ q))
      rw [List.length_set]
      exact e5
    | _ => exact False.elim hk
  · exact hd.elim
def isBD : D2 := fun d e Q => match d, e with | .bool a, .bool b => Q (.bool (decide (a = b))) | _, _ => False
def isNotBD : D2 := fun d e Q => match d, e with | .bool a, .bool b => Q (.bool (!decide (a = b))) | _, _ => False
theorem sv_isB {K : PySem.W.Frag} : Serves K c rIsB isBD := fun F H x y d e R Q ex rx ry h k => by
  unfold isBD at h
  split at h
  · cases rx; cases ry
    exact ⟨_, _, rfl, rfl, k _ h _ F H ex (.bl _)⟩
  · exact h.elim
theorem sv_isNotB {K : PySem.W.Frag} : Serves K c rNotB isNotBD := fun F H x y d e R Q ex rx ry h k => by
  unfold isNotBD at h
  split at h
  · cases rx; cases ry
    exact ⟨_, _, rfl, rfl, k _ h _ F H ex (.bl _)⟩
  · exact h.elim
theorem de_isB (ha : DE X c a ma) (hb : DE X c b mb) : DE X c (.Compare a [.Is] [b] pos) (dOp isBD ma mb) := de_cmp op_isBl sv_isB ha hb (nomark _)
theorem dt_isB (ha : DE X c a ma) (hb : DE X c b mb) : DT X c (.Compare a [.Is] [b] pos) (dT (dOp isBD ma mb)) := dt_cmp op_isBl sv_isB ha hb (nomark _)
theorem de_isNotB (ha : DE X c a ma) (hb : DE X c b mb) : DE X c (.Compare a [.IsNot] [b] pos) (dOp isNotBD ma mb) := de_cmp op_notBl sv_isNotB ha hb (nomark _)
theorem dt_isNotB (ha : DE X c a ma) (hb : DE X c b mb) : DT X c (.Compare a [.IsNot] [b] pos) (dT (dOp isNotBD ma mb)) := dt_cmp op_notBl sv_isNotB ha hb (nomark _)
theorem isBD_bl {a b : Bool} {Q : D → Prop} : isBD (.bool a) (.bool b) Q = Q (.bool (decide (a = b))) := rfl
theorem isNotBD_bl {a b : Bool} {Q : D → Prop} : isNotBD (.bool a) (.bool b) Q = Q (.bool (!decide (a = b))) := rfl
end
end Lay
namespace Lay
open PySem PySem.Spec L2
open PyProof.Rows hiding St
def putPar (i j : Nat) (m : DTE) (t : D) (en : En) (Q : En → Prop) : Prop := match t with
  | .tuple [d, e] => onOwn (gt en i) fun xs => m en fun k => onInt k fun k => ∃ q, ixN xs.length k = some q ∧ Q ((en.set i (.own (xs.set q d))).set j (.val e))
  | _ => False
def dPutPar (i j : Nat) (m mv : DTE) (R : DEnds) (en : En) : Prop := mv en fun t => putPar i j m t en R.nx
theorem putPar_two {i j : Nat} {m : DTE} {d e : D} {en : En} {Q : En → Prop} : putPar i j m (.tuple [d, e]) en Q = onOwn (gt en i) fun xs => m en fun k => onInt k fun k => ∃ q, ixN xs.length k = some q ∧ Q ((en.set i (.own (xs.set q d))).set j (.val e)) := rfl
section
variable {X : Cx} {c : Ct} {e a b : Expr} {m mv ma mb : DTE} {pos : Pos}
theorem sputPar (i j : Nat) {x y : Str} {px py p2 pt : Pos} {kt : Nat} (nd : X.N.Nodup) (hi : DE X c b m) (hv : DE X c e mv) (hc : X.calm = true := by rfl) (hN : X.N[i]? = some x := by rfl) (hM : X.N[j]? = some y := by rfl) (hvis : Vis X.env.scope x := by first | exact Or.inl rfl | exact Or.inr (Or.inl rfl) | exact Or.inr (Or.inr rfl)) (hd : (x == ("__debug__" : Str)) = false := by decide) (hcd : (x == ("__classdict__" : Str)) = false := by decide)
    (hx : Loc X.env.scope y := by first | exact Or.inl rfl | exact Or.inr rfl) (hf : X.fn y = true ∨ X.env.scope.names.lookup y = some .local := by first | exact .inl rfl | exact .inr rfl)
    (ha : ∀ v, assign (.Subscript (.Name x px) b p2) X.env v = (do
      let ov ← holding [v] (eval (.Name x px) X.env)
      let iv ← holding [v, ov] (eval b X.env)
      standAt p2
      holding [v, ov, iv] (setItem ov iv v)
      release [v, ov, iv] []) := by intro _; rfl)
    (hs1 : (assignEach [.Subscript (.Name x px) b p2, .Name y py] X.env).map (·.2) = assign (.Subscript (.Name x px) b p2) X.env :: (assignEach [.Name y py] X.env).map (·.2) := by rfl)
    (hs2 : (assignEach [.Name y py] X.env).map (·.2) = assign (.Name y py) X.env :: (assignEach [] X.env).map (·.2) := by rfl)
    (hn : (assignEach [.Subscript (.Name x px) b p2, .Name y py] X.env).length = 2 := by rfl) (hst : (assignEach [.Subscript (.Name x px) b p2, .Name y py] X.env).findIdx? (·.1) = none := by rfl)
    (hs : swapsWithSole [.Tuple [.Subscript (.Name x px) b p2, .Name y py] kt pt] e pos.line X.env = pure false := by rfl) (hw : swappedStores [.Tuple [.Subscript (.Name x px) b p2, .Name y py] kt pt] e X.env = pure none := by rfl)
    (h1 : (assignEach [.Tuple [.Subscript (.Name x px) b p2, .Name y py] kt pt] X.env).map (·.2) = [assign (.Tuple [.Subscript (.Name x px) b p2, .Name y py] kt pt) X.env] := by rfl) :
    DS X c (.Assign [.Tuple [.Subscript (.Name x px) b p2, .Name y py] kt pt] e pos) (dPutPar i j m mv) := by
  refine ⟨PS.imp (ps_asg hv.run (pg_tup hc (pgs_cons (pg_sub (pe_var hN hvis hd hcd) hi.run set_list ha) (pgs_cons (pg_name nd hM hx hf) pgs_nil hs2) hs1) hn hst) hs hw h1) fun D σ H h => ?_⟩
  obtain ⟨F, en, R, r, h, k⟩ := h
  refine ⟨F, en, _, r, h, fun t hd v F1 H1 x1 rv => ?_⟩
  unfold putPar at hd
  split at hd
  · rename_i d e
    obtain ⟨tp, us, rfl, g1, g2, g3⟩ := rv.tupI
    obtain ⟨v1, v2, rfl, rv1, rv2⟩ := g2.two
    refine ⟨tp, [v1, v2], rfl, sqT_mono x1.fh g1, rfl, ?_⟩
    unfold onOwn at hd
    split at hd
    · rename_i xs hg
      have hen := gt_get hg (fun z => nomatch z)
      have g := r.grow x1
      obtain ⟨ov, e1, p, vs, e2, e3, e4, e5⟩ := g.sl i _ hen
      subst e2
      refine ⟨v1, [v2], rfl, _, e1, F1, en, _, g, hd, fun kd hk kv F2 H2 x2 rk => ?_⟩
      cases kd with
      | int n =>
        cases rk
        obtain ⟨q, hq, hk⟩ := hk
        have g2 := g.grow x2
        have ha : ownAt σ en i p := ⟨e1, _, hen, rfl⟩
        have e3' := x2.hh _ _ e3 (g.notW ha)
        have e4' := Reps.mono x2.ff _ _ e4
        have rw1 := Rep.mono x2.ff _ _ rv1
        have rw2 := Rep.mono x2.ff _ _ rv2
        refine ⟨p, vs, n, q, rfl, rfl, e3', by rw [e4.len]; exact hq, ?_⟩
        refine ⟨v2, [], rfl, rfl, ?_⟩
        have gt := g2.turn ha (s := .own (xs.set q d)) ⟨p, _, rfl, upd_same, Reps.setD rw1 e4', by rw [List.length_set]; exact e5⟩
        exact k.nx _ _ F2 _ hk (gt.set rw2) (fun b o q => x2.ff _ _ (x1.ff _ _ q))
      | _ => exact False.elim hk
    · exact hd.elim
  · exact hd.elim
end
end Lay
namespace Lay
open PySem PySem.Spec L2
open PyProof.Rows hiding St
theorem SR.adopt {K : PySem.W.Frag} {c : Ct} {F F' H H' : Hp} {σ : St} {en : En} (r : SR K c F σ H en) (x : Ext c.wo F H F' H') {i : Nat} {p : Addr} {s : Sl} (hp : H p = none) (fp : F' p = none) (h : SlR K c F' H' (some (.ref p)) s) : SR K c F' (σ.set i (some (.ref p))) H' (en.set i s) := by
  have g := r.grow x
  have np : ∀ {j a}, ownAt σ en j a → a ≠ p := fun {j a} z => by
    obtain ⟨u, e, _⟩ := r.there z
    exact ne_of_none e hp
  have inv : ∀ {j a}, ownAt (σ.set i (some (.ref p))) (en.set i s) j a → (j = i ∧ a = p) ∨ (j ≠ i ∧ ownAt σ en j a) := fun {j a} z => by
    obtain ⟨e, u, eu, ou⟩ := z
    rcases get_set eu with ⟨q, e1, hl⟩ | ⟨q, e1⟩
    · subst q
      rw [List.getElem?_set_self (by rw [r.len]; exact hl)] at e
      cases e
      exact .inl ⟨rfl, rfl⟩
    · rw [List.getElem?_set_ne q] at e
      exact .inr ⟨fun z => q z.symm, e, u, e1, ou⟩
  refine ⟨g.ext, by simp [r.len], fun j u e => ?_, fun j a z => ?_, fun j k a z1 z2 => ?_, g.wn⟩
  · rcases get_set e with ⟨q, e1, hl⟩ | ⟨q, e1⟩
    · subst q e1
      exact ⟨_, by rw [List.getElem?_set_self (by rw [r.len]; exact hl)], h⟩
    · obtain ⟨w, e2, e3⟩ := g.sl j u e1
      exact ⟨w, by rw [List.getElem?_set_ne q]; exact e2, e3⟩
  · rcases inv z with ⟨_, e⟩ | ⟨_, z⟩
    · subst e
      exact ⟨fp, r.ext.wne hp, r.ext.back hp⟩
    · exact g.own j a z
  · rcases inv z1 with ⟨e1, e2⟩ | ⟨n1, y1⟩
    · rcases inv z2 with ⟨e3, e4⟩ | ⟨n2, y2⟩
      · rw [e1, e3]
      · exact absurd e2 (np y2)
    · rcases inv z2 with ⟨e3, e4⟩ | ⟨n2, y2⟩
      · exact absurd e4 (np y1)
      · exact g.apart j k a y1 y2
def dOwnC (i : Nat) (m : DTE) (R : DEnds) (en : En) : Prop := m en fun d => onLst d fun xs => R.nx (en.set i (.own xs))
section
variable {X : Cx} {c : Ct} {mt : DTT} {pos : Pos}
theorem lift_lcO {K : PySem.W.Frag} {z : Bool} {mi : DTA} {g : DTG} {mt : DTT} {me : DTE} {vs sl : List Nat} (hsl : ∀ i ∈ sl, i ∈ vs) {σ : St} {H : Hp} {Q : VK} {F : Hp} {en : En} {R : D → Prop} (r : SR K c F σ H en) (h : dLc z mi g mt me vs en R)
    (k : ∀ acc vacc Fc Hc p, R (.list acc) → Ext c.wo F H Fc Hc → H p = none → Hc p = some (.lst vacc) → Fc p = none → Reps K Fc vacc acc → acc.length ≤ sizeLine → Q (.ref p) Hc) :
    tLc (liftI K c z mi) (liftG K c sl g) (liftT K c mt) (liftE K c me) vs σ H Q := by
  refine ⟨F, en, _, r, h, fun ds hd J F1 H1 x1 w hz => ?_⟩
  intro D1 hD
  obtain ⟨hlen, W, w0, turn, fin⟩ := hd
  have hl : ds.length ≤ sizeLine := by
    cases z with
    | true => exact hz rfl
    | false => exact hlen rfl
  have fD : F1 D1 = none := by
    cases q : F1 D1 with
    | none => rfl
    | some u => rw [x1.fh _ _ q] at hD; cases hD
  refine ⟨fun i m Hc => m = ds.length - i ∧ i ≤ ds.length ∧ ∃ Fc acc vacc, Ext c.wo F1 H1 Fc Hc ∧ Hc D1 = some (.lst vacc) ∧ Fc D1 = none ∧ Reps K Fc vacc acc ∧ acc.length ≤ i ∧ W i acc,
    ⟨ds.length, by simp, Nat.zero_le _, F1, [], [], x1.self.poke hD fD (x1.wne hD), upd_same, fD, .nil, Nat.le_refl _, w0⟩, ?_⟩
  rintro i m Hc ⟨rfl, hi, Fc, acc, vacc, xc, hc, fc, rc, hacc, wc⟩
  by_cases hlt : i < ds.length
  · have ed : ds[i]? = some ds[i] := List.getElem?_eq_getElem hlt
    refine .inr ⟨w.go i _ Fc Hc xc.ff xc.self ed, fun H' => ∃ Fc acc vacc, Ext c.wo F1 H1 Fc H' ∧ H' D1 = some (.lst vacc) ∧ Fc D1 = none ∧ Reps K Fc vacc acc ∧ acc.length ≤ i + 1 ∧ W (i + 1) acc, fun H' h' => ⟨ds.length - (i + 1), by omega, rfl, hlt, h'⟩, fun x H' y => ?_⟩
    obtain ⟨F2, x2, rx⟩ := w.yld i _ Fc Hc x H' xc.ff xc.self ed y
    have nD : ∀ {F3 H3 : Hp}, Ext c.wo Fc Hc F3 H3 → H3 D1 = some (.lst vacc) ∧ F3 D1 = none := fun {F3 H3} x3 => by
      refine ⟨x3.hh _ _ hc fun ⟨d, q⟩ => (x1.wne hD _ q).1 rfl, ?_⟩
      cases q : F3 D1 with
      | none => rfl
      | some u =>
        have := x3.nw _ _ q fc
        rw [hc] at this; rcases this with this | ⟨_, this⟩ <;> cases this
    have r0 := ((r.grow x1).grow xc).grow x2
    refine ⟨F2, wipeE en vs, ds[i], _, r0.wipe vs, rx, turn i _ acc ed hacc wc, fun en' σ' h' r' k' => ?_⟩
    refine ⟨wipe_same (k'.1.trans (wipe_length _ _)) fun j hj => k'.2 j fun z => hj (hsl j z), F2, en', _, r', h', fun bb hb F3 H3 x3 => ?_⟩
    cases bb with
    | true =>
      refine ⟨F3, en', _, r'.grow x3, hb, fun yd hy yv F4 H4 x4 ry => ?_⟩
      have xx := x2.trans (x3.trans x4)
      obtain ⟨n1, n2⟩ := nD xx
      refine ⟨vacc, n1, by rw [rc.len]; omega, F4, acc ++ [yd], vacc ++ [yv], (xc.trans xx).poke hD n2 (x1.wne hD), upd_same, n2, (Reps.mono xx.ff _ _ rc).append (.cons ry .nil), by rw [List.length_append, List.length_singleton]; omega, hy⟩
    | false =>
      have xx := x2.trans x3
      obtain ⟨n1, n2⟩ := nD xx
      exact ⟨F3, acc, vacc, xc.trans xx, n1, n2, Reps.mono xx.ff _ _ rc, by omega, hb⟩
  · have e : i = ds.length := by omega
    subst e
    refine .inl ⟨w.stop Fc Hc xc.ff xc.self, ?_⟩
    have hD0 : H D1 = none := x1.back hD
    exact k acc vacc Fc Hc D1 (fin acc hacc wc) (x1.trans xc) hD0 hc fc rc (Nat.le_trans hacc hl)
theorem sownLc (i : Nat) {y : Str} {py : Pos} {elt tg iter : Expr} {ifs : List Expr} {scope : Scope} {own : List (Str × Nat)} {sl : List Nat} {z : Bool} {mi : DTA} {g : DTG} {me : DTE} {spos : Pos} (hN : X.N.Nodup)
    (hi : DI X c tg iter z mi) (ok : BlkOk X.N X.env.scope scope own)
    (hg : ∀ (s : Shared) (H : Hp) (C : Addr) (cl : List (Str × Addr)) (fp : List Addr), DG (X.blk s H scope (compEnvC scope cl C X.env) fp) c tg sl g) (ht : ∀ (s : Shared) (H : Hp) (C : Addr) (cl : List (Str × Addr)) (fp : List Addr), DTs (X.blk s H scope (compEnvC scope cl C X.env) fp) c ifs mt)
    (he : ∀ (s : Shared) (H : Hp) (C : Addr) (cl : List (Str × Addr)) (fp : List Addr), DE (X.blk s H scope (compEnvC scope cl C X.env) fp) c elt me)
    (hc : X.calm = true := by rfl) (hy : X.N[i]? = some y := by rfl) (hyl : X.env.scope.names.lookup y = some .local := by rfl)
    (hsw : swapsWith (.ListComp elt [⟨tg, iter, ifs, 0⟩] scope pos) (some (.Name y py)) spos.line X.env = pure true := by rfl)
    (hsl : ∀ i ∈ sl, i ∈ own.map (·.2) := by decide) (hs : ∀ x, foldedSetIterable iter X.env x = pure x := by intro _; rfl) :
    DS X c (.Assign [.Name y py] (.ListComp elt [⟨tg, iter, ifs, 0⟩] scope pos) spos) (dOwnC i (dLc z mi g mt me (own.map (·.2)))) := by
  refine ⟨PS.imp (ps_setLc (te := liftE X.K c me) (tt := liftT X.K c mt) (g := liftG X.K c sl g) (i := i) hc hN hy hyl hsw hi.run ok (fun s H C cl fp => (hg s H C cl fp).run) (fun s H C cl fp => (ht s H C cl fp).run) (fun s H C cl fp => (he s H C cl fp).run) hs) fun D σ H h => ?_⟩
  obtain ⟨F, en, R, r, h, k⟩ := h
  refine lift_lcO hsl r h fun acc vacc Fc Hc p hR x hp hc fp rs hl => ?_
  exact k.nx _ _ Fc Hc hR (r.adopt x hp fp ⟨p, vacc, rfl, hc, rs, hl⟩) x.ff
end
end Lay
namespace Lay
open PySem PySem.Spec L2 SrtO
open PyProof.Rows hiding St
def lexI : List Int → List Int → Bool
  | x :: xs, y :: ys => if x = y then lexI xs ys else decide (x < y)
  | _, _ => false
theorem lexI_swo : ∀ (n : Nat) (x y z : List Int), x.length = n → y.length = n → z.length = n → (lexI x y = true → lexI y x = false) ∧ (lexI x y = false → lexI y z = false → lexI x z = false) := by
  intro n
  induction n with
  | zero =>
    intro x y z hx hy hz
    have ex := List.eq_nil_of_length_eq_zero hx
    subst ex
    exact ⟨(fun h => nomatch h), fun _ _ => rfl⟩
  | succ n ih =>
    intro x y z hx hy hz
    match x, y, z, hx, hy, hz with
    | a :: x, b :: y, c :: z, hx, hy, hz =>
      obtain ⟨i1, i2⟩ := ih x y z (by simpa using hx) (by simpa using hy) (by simpa using hz)
      simp only [lexI]
      refine ⟨fun h => ?_, fun h1 h2 => ?_⟩
      · by_cases e : a = b
        · subst e
          rw [if_pos rfl] at h ⊢
          exact i1 h
        · rw [if_neg e, decide_eq_true_eq] at h
          rw [if_neg (fun z => e z.symm), decide_eq_false_iff_not]
          omega
      · by_cases e : a = b
        · subst e
          rw [if_pos rfl] at h1
          by_cases e2 : a = c
          · subst e2
            rw [if_pos rfl] at h2 ⊢
            exact i2 h1 h2
          · rw [if_neg e2] at h2 ⊢
            exact h2
        · rw [if_neg e, decide_eq_false_iff_not] at h1
          by_cases e2 : b = c
          · subst e2
            rw [if_neg e, decide_eq_false_iff_not]
            exact h1
          · rw [if_neg e2, decide_eq_false_iff_not] at h2
            rw [if_neg (by omega), decide_eq_false_iff_not]
            omega
section
variable {prog : Program} {w : World} {A : Around} {s : Shared}
theorem lex_walk {fin : Bool} : ∀ {xs ys : List Value} {ns ms : List Int}, IntsAre xs ns → IntsAre ys ms → ns.length = ms.length → fin = false → ∀ (i : Nat), PySem.W.KatLex prog w A true fin (fun r s' => s' = s ∧ r = lexI ns ms) (xs.zip ys) i s
  | _, _, _, _, .nil, .nil, _, hf, i => PySem.W.kat_nil ⟨rfl, by rw [hf]; rfl⟩
  | _, _, _, _, .nil, .cons _ _ _, h, _, _ => by simp at h
  | _, _, _, _, .cons _ _ _, .nil, h, _, _ => by simp at h
  | _, _, _, _, .cons n t r, .cons m u q, h, hf, i => by
    refine PySem.W.kat_cons (SeqAt.EqAt.int_int n t m u prog w _ _ ?_)
    refine PySem.W.kat_go (fun e1 => ?_) (fun e1 => ?_)
    · have ex : n = m := by simpa using e1
      subst ex
      have := lex_walk (fin := fin) r q (by simpa using h) hf (i + 1)
      refine PySem.W.kat_yes ?_
      simp only [lexI, if_true]
      exact this
    · have ex : ¬ n = m := by simpa using e1
      refine PySem.W.kat_no ?_
      simp only [lexI, if_neg ex]
      cases hi : (true && i == 0)
      · exact PySem.W.kat_one _ _ (PyProof.Rows.lt_int ⟨rfl, rfl⟩)
      · exact oneLt_int ⟨rfl, rfl⟩
theorem swo_lexI {d : Nat} {k : Value → List Int} (hk : ∀ v, (k v).length = d) : Swo fun v u => lexI (k v) (k u) :=
  ⟨fun x y h => (lexI_swo d (k x) (k y) (k y) (hk x) (hk y) (hk y)).1 h, fun x y z h1 h2 => (lexI_swo d (k z) (k y) (k x) (hk z) (hk y) (hk x)).2 h2 h1⟩
theorem tups_cmp {d : Nat} {vs : List Value} {k : Value → List Int} (hk : ∀ v, (k v).length = d) (hp : ∀ v ∈ vs, TS.TupInts s.heap v (k v)) : Cmp prog w A s (tuples' true) (fun p => p.1 ∈ vs) (lt2 fun v u => lexI (k v) (k u)) := by
  intro p q hm hm'
  obtain ⟨a, xs, e, ⟨o, ho, hc, n, hd⟩, i⟩ := hp _ hm
  obtain ⟨a', xs', e', ⟨o', ho', hc', n', hd'⟩, i'⟩ := hp _ hm'
  show wpAny (model prog w) A (keyLt' (tuples' true) p.1 q.1) (fun r s' => s' = s ∧ r = lexI (k p.1) (k q.1)) (fun _ _ => False) s
  have hl : (k p.1).length = (k q.1).length := by rw [hk, hk]
  generalize k p.1 = ns at i hl ⊢
  generalize k q.1 = ms at i' hl ⊢
  rw [e, e']
  refine PySem.W.kat_lt ho hd ho' hd' ?_
  refine lex_walk i i' hl ?_ 0
  have l1 := i.length
  have l2 := i'.length
  rw [Array.length_toList] at l1 l2
  exact decide_eq_false (by omega)
theorem firstsN {h : Heap} {d : Nat} {k : Value → List Int} (hd : 1 ≤ d) (hk : ∀ v, (k v).length = d) : ∀ vs : List Value, (∀ v ∈ vs, TS.TupInts h v (k v)) → ∃ fs, PySem.W.KatTups h vs fs ∧ fs.length = vs.length ∧ ∀ f, f ∈ fs → ∃ n t, f = Value.int n t
  | [], _ => ⟨[], PySem.W.KatTups.nil, rfl, fun f hf => by simp at hf⟩
  | v :: vs, x => by
    obtain ⟨fs, kk, hl, hi⟩ := firstsN hd hk vs fun u hu => x u (List.mem_cons_of_mem _ hu)
    obtain ⟨a, xs, e0, ⟨o, ho, hc, n, hdt⟩, i⟩ := x v (List.mem_cons_self ..)
    obtain ⟨y, ys, e⟩ : ∃ y ys, xs.toList = y :: ys := by
      cases q : xs.toList with
      | nil =>
        rw [q] at i
        have l := i.length
        rw [List.length_nil, hk] at l
        omega
      | cons y ys => exact ⟨y, ys, rfl⟩
    obtain ⟨m, t, hy⟩ := i.all y (by rw [e]; exact List.mem_cons_self ..)
    rw [e0]
    refine ⟨y :: fs, PySem.W.KatTups.cons ho hc hdt ?_ kk, by simp [hl], ?_⟩
    · have z := congrArg (fun l : List Value => l[0]?) e
      simpa using z
    · intro f hf
      rcases List.mem_cons.mp hf with rfl | hf
      · exact ⟨m, t, hy⟩
      · exact hi f hf
theorem tups_sortableO {a : Addr} {vs : List Value} {d : Nat} {k : Value → List Int} (h0 : 0 < vs.length) (hd : 1 ≤ d) (hk : ∀ v, (k v).length = d) (hp : ∀ v ∈ vs, TS.TupInts s.heap v (k v)) (ha : ∀ o, s.heap.get? a = some o → o.cls ≠ .type "tuple") : SortableO prog w A s a vs fun v u => lexI (k v) (k u) := by
  intro h' keep
  have hp' : ∀ v ∈ vs, TS.TupInts h' v (k v) := fun v hm => (hp v hm).keeps fun b o e c => keep b o (fun z => by subst z; exact ha o e c) e
  obtain ⟨fs, h1, h2, h3⟩ := firstsN hd hk vs hp'
  refine ⟨tuples' true, fun Q E hq => ?_, tups_cmp (s := { s with heap := h' }) hk hp'⟩
  refine PySem.W.kat_kind (T := .type "int") h1 (by omega) (fun f hm => ?_) (by rfl) ?_
  · obtain ⟨x, t, rfl⟩ := h3 f hm
    exact PySem.W.Looks.now
  · have e : (Value.type "int" != Value.type "tuple") = true := by first | decide +kernel | rfl | decide
    rw [e]
    exact hq
theorem sorted_tupsO {l : Addr} {vs : List Value} {d : Nat} {k : Value → List Int} {E : Value → Shared → Prop} {Q : Value → Shared → Prop} (hl : s.heap.IsList l vs.toArray) (hz : vs.length ≤ sizeLine) (hd : 1 ≤ d) (hk : ∀ v, (k v).length = d) (hp : ∀ v ∈ vs, TS.TupInts s.heap v (k v))
    (h : ∀ (h' : Heap) (d : Addr) (out : List Value), Srtd (fun v u => lexI (k v) (k u)) out → Stb (fun v u => lexI (k v) (k u)) out vs → (∀ b o, s.heap.get? b = some o → h'.get? b = some o) → s.heap.objs.size ≤ d → (∃ n, h'.get? d = some (seqObj "list" out.toArray n)) → Q (.ref d) { s with heap := h' }) :
    wpAny (model prog w) A (call (.builtin "sorted") [.ref l]) Q E s := by
  refine sorted_ord (swo_lexI hk) hl hz (fun h2 h₁ a ha kk => ?_) fun out hs hb => ?_
  · refine tups_sortableO (s := { s with heap := h₁ }) (by omega) hd hk (fun v hm => (hp v hm).keeps fun b o e _ => (kk b o e).2) fun o e => ?_
    have e' : some o = some (seqObj "list" vs.toArray 0) := e.symm.trans ha
    cases e'
    intro c
    exact absurd (Value.type.inj c) (by decide)
  · exact h _ _ out hs hb (fun b o e => sortedAll_old e) (Nat.le_succ _) (sortedAll_at s.heap vs out.toArray)
end
/-- sorted(xs), xs a list of tuples of d ints: a new list of the same, ascending -/
def rSortedN (K : PySem.W.Frag) : List V → Hp → VK → Prop := fun vs H Q => ∃ (a : Addr) (ps : List (V × List Int)) (d : Nat), vs = [V.ref a] ∧ SqL K H a (ps.map (·.1)) ∧ 1 ≤ d ∧ (∀ p ∈ ps, p.2.length = d ∧ ∃ t, p.1 = V.ref t ∧ SqT K H t (p.2.map V.int)) ∧
  ∀ (qs : List (V × List Int)) (p : Addr), qs.Perm ps → qs.Pairwise (fun x y => lexI y.2 x.2 = false) → H p = none → Q (.ref p) (upd H p (.lst (qs.map (·.1))))
theorem cr_sortedN {X : Cx} : CallR X (.builtin "sorted") (rSortedN X.K) := by
  intro pins s σ H vs us Q I r h
  obtain ⟨a, ps, d, rfl, hs, hd, hx, q⟩ := h
  obtain ⟨its, rv, hl, hz⟩ := I.list hs
  obtain ⟨u, rfl, ru⟩ := vals1 r
  obtain rfl : u = Value.ref a := ru
  obtain ⟨e1, e2⟩ := refs_back rv fun x m => by
    obtain ⟨p, hp, rfl⟩ := List.mem_map.mp m
    obtain ⟨_, t, e, _⟩ := hx p hp
    exact ⟨t, e⟩
  -- the keys, read off the heap
  let k : Value → List Int := fun v => if (TS.intsOf s.heap v).length = d then TS.intsOf s.heap v else List.replicate d 0
  have hk : ∀ v, (k v).length = d := fun v => by
    show (if _ then _ else _ : List Int).length = d
    split
    · assumption
    · exact List.length_replicate
  have hraw : ∀ p ∈ ps, ∀ v : Value, p.1 = backV v → (∃ t, v = Value.ref t) → TS.TupInts s.heap v p.2 ∧ k v = p.2 := fun p hp v e ⟨t, et⟩ => by
    subst et
    obtain ⟨hl, t', e', hT⟩ := hx p hp
    rw [e] at e'
    cases e'
    have ht := tupI_raw I hT
    have := ht.ints
    refine ⟨ht, ?_⟩
    show (if _ then _ else _ : List Int) = _
    rw [this, if_pos hl]
  have epair : ∀ (ps : List (V × List Int)) (its : List Value), ps.map (·.1) = its.map backV → (∀ p ∈ ps, ∀ v : Value, p.1 = backV v → (∃ t, v = Value.ref t) → TS.TupInts s.heap v p.2 ∧ k v = p.2) → (∀ u ∈ its, ∃ a, u = Value.ref a) → ps = its.map fun v => (backV v, k v) := by
    intro ps
    induction ps with
    | nil => intro its h _ _; cases its with | nil => rfl | cons _ _ => simp at h
    | cons p ps ih =>
      intro its h h1 h2
      cases its with
      | nil => simp at h
      | cons v its =>
        rw [List.map_cons, List.map_cons] at h
        obtain ⟨ha, hb⟩ := List.cons.inj h
        rw [List.map_cons, ← ih its hb (fun p hp => h1 p (List.mem_cons_of_mem _ hp)) fun u hu => h2 u (List.mem_cons_of_mem _ hu)]
        congr 1
        refine Prod.ext ha ?_
        exact (h1 p List.mem_cons_self v ha (h2 v List.mem_cons_self)).2.symm
  have eps := epair ps its e1 hraw e2
  refine sorted_tupsO (d := d) (k := k) hl.isList (by rw [← rv.length]; exact hz) hd hk (fun v hv => ?_) fun h' d' out h1 h2 kp hd' hn => ?_
  · have hm : (backV v, k v) ∈ ps := by rw [eps]; exact List.mem_map.mpr ⟨v, hv, rfl⟩
    exact (hraw _ hm v rfl (e2 v hv)).1
  · have h3 : ∀ u ∈ out, ∃ a, u = Value.ref a := fun u hu => e2 u (h2.perm.mem_iff.mp hu)
    obtain ⟨n, hn⟩ := hn
    have hp : (out.map fun v => (backV v, k v)).Perm ps := by
      rw [eps]
      exact h2.perm.map _
    have hsr : (out.map fun v => (backV v, k v)).Pairwise (fun x y => lexI y.2 x.2 = false) := by
      rw [List.pairwise_map]
      exact h1
    have emap : (out.map fun v => (backV v, k v)).map (·.1) = out.map backV := by rw [List.map_map]; rfl
    have hfin := q _ d' hp hsr (I.hok.fresh hd')
    rw [emap] at hfin
    refine ⟨.ref d', upd H d' (.lst (out.map backV)), I.laid (t' := s.toks) kp hd' ⟨?_, out, n, vals_back h3, hn⟩, rfl, hfin⟩
    rw [List.length_map, h2.perm.length_eq]
    have := rv.length
    omega
def tupD (n : List Int) : D := .tuple (n.map .int)
def sortedTD : DC := fun ds Q => match ds with
  | [.list xs] => ∃ (ns : List (List Int)) (d : Nat), xs = ns.map tupD ∧ 1 ≤ d ∧ (∀ n ∈ ns, n.length = d) ∧ ∀ ms : List (List Int), ms.Perm ns → ms.Pairwise (fun x y => lexI y x = false) → Q (.list (ms.map tupD))
  | _ => False
theorem reps_pairs {K : PySem.W.Frag} {F : Hp} : ∀ {vs : List V} {ns : List (List Int)}, Reps K F vs (ns.map tupD) → (vs.zip ns).map (·.1) = vs ∧ (vs.zip ns).map (·.2) = ns ∧ ∀ p ∈ vs.zip ns, Rep K F p.1 (tupD p.2)
  | _, [], h => by cases h; exact ⟨rfl, rfl, fun p hp => nomatch hp⟩
  | _, n :: ns, h => by
    cases h with
    | cons h1 h2 =>
      obtain ⟨a, b, c⟩ := reps_pairs h2
      refine ⟨by rw [List.zip_cons_cons, List.map_cons, a], by rw [List.zip_cons_cons, List.map_cons, b], fun p hp => ?_⟩
      rcases List.mem_cons.mp hp with rfl | hp
      · exact h1
      · exact c p hp
theorem reps_of {K : PySem.W.Frag} {F : Hp} : ∀ {qs : List (V × List Int)}, (∀ p ∈ qs, Rep K F p.1 (tupD p.2)) → Reps K F (qs.map (·.1)) ((qs.map (·.2)).map tupD)
  | [], _ => .nil
  | q :: qs, h => .cons (h q List.mem_cons_self) (reps_of fun p hp => h p (List.mem_cons_of_mem _ hp))
theorem sv_sortedT {K : PySem.W.Frag} {c : Ct} : ServesC K c (rSortedN K) sortedTD := by
  intro F H vs ds R Q ex rv h k
  unfold sortedTD at h
  split at h
  · obtain ⟨ns, d, rfl, hd, hn, h⟩ := h
    obtain ⟨v, rfl, r1⟩ := rv.one
    obtain ⟨p, ys, rfl, g1, g2, g3⟩ := r1.lstI
    obtain ⟨z1, z2, z3⟩ := reps_pairs g2
    refine ⟨p, ys.zip ns, d, rfl, by rw [z1]; exact SqL.of (ex.fh _ _ g1), hd, fun q hq => ⟨hn _ (by rw [← z2]; exact List.mem_map.mpr ⟨q, hq, rfl⟩), ?_⟩, fun qs l hp hs hl => ?_⟩
    · obtain ⟨t, xs, e, s1, s2, _⟩ := (z3 q hq).tupI
      have e2 := s2.ints_inv
      subst e2
      exact ⟨t, e, sqT_mono ex.fh s1⟩
    · have hr := reps_of (qs := qs) (K := K) (F := F) fun q hq => z3 q (hp.mem_iff.mp hq)
      have hm : (qs.map (·.2)).Perm ns := by rw [← z2]; exact hp.map _
      have hz : ((qs.map (·.2)).map tupD).length ≤ sizeLine := by
        rw [List.length_map, hm.length_eq, ← List.length_map (f := tupD)]
        exact g3
      obtain ⟨y1, y2⟩ := newLst ex hl hr hz
      refine k _ (h _ hm ?_) _ _ _ y1 y2
      rw [List.pairwise_map]
      exact hs
  · exact h.elim
theorem de_sortedT {X : Cx} {c : Ct} {a : Expr} {ml : DTA} {p pos : Pos} (hm : X.mg "sorted" = none) (ha : DA X c [a] ml) (hg : Gl X "sorted" := by rfl) (he : starEach [a] X.env = (false, eval a X.env) :: starEach [] X.env := by rfl) (hpl : (backTo pos (starEach [] X.env)).any (·.1) = false := by rfl) : DE X c (.Call (.Name "sorted" p) [a] [] pos) (dB sortedTD ml) :=
  de_callB cr_sortedN sv_sortedT hg hm boot_sorted ha (by decide) (by decide) he hpl
end Lay
namespace Lay
open PySem PySem.Spec L2
open PyProof.Rows hiding St
section
variable {X : Cx} {c : Ct} {a b cc dd : Expr} {ta tb tc td : TE} {ma mb mc md : DTE} {pos : Pos}
def tChain3 (r r' r'' : R2) (ta tb tc td : TE) : TE := fun σ H Q => ta σ H fun x H1 => tb σ H1 fun y H2 => r x y H2 fun z H3 => ∃ k, z = .bl k ∧
  (if k = true then tc σ H3 fun w' H4 => r' y w' H4 fun z2 H5 => ∃ k2, z2 = .bl k2 ∧ (if k2 = true then td σ H5 fun w2 H6 => r'' w' w2 H6 Q else Q (.bl false) H5) else Q (.bl false) H3)
theorem pe_chain3 {op op' op'' : CmpOp} {r r' r'' : R2} (ho : OpR X (compareOp op) r) (ho' : OpR X (compareOp op') r') (ho'' : OpR X (compareOp op'') r'') (ha : PE X a ta) (hb : PE X b tb) (hc : PE X cc tc) (hd : PE X dd td)
    (hm : lastMarks [op, op', op''] [b, cc, dd] = false := by with_unfolding_all rfl) : PE X (.Compare a [op, op', op''] [b, cc, dd] pos) (tChain3 r r' r'' ta tb tc td) := by
  refine ⟨fun pins s σ H Q I h => ?_⟩
  refine Compare_chain (thn (ha.run pins s σ H _ I h) fun v s1 ⟨x, H1, I1, r1, q1⟩ => chain_link (thn (hb.run pins s1 σ H1 _ I1 q1) fun u s2 ⟨y, H2, I2, r2, q2⟩ =>
    thn (ho pins s2 σ H2 x y v u _ I2 r1 r2 q2) fun d s3 ⟨z, H3, I3, r3, k, e, q3⟩ => ?_)) hm
  subst e
  cases r3
  refine wpAny_truthy_bool ?_
  cases k with
  | false => exact ite_ff ⟨.bl false, H3, I3, rfl, q3⟩
  | true =>
    refine ite_tt (chain_link (thn (hc.run pins s3 σ H3 _ I3 q3) fun w' s4 ⟨z', H4, I4, r4, q4⟩ => thn (ho' pins s4 σ H4 y z' u w' _ I4 r2 r4 q4) fun d2 s5 ⟨z2, H5, I5, r5, k2, e2, q5⟩ => ?_))
    subst e2
    cases r5
    refine wpAny_truthy_bool ?_
    cases k2 with
    | false => exact ite_ff ⟨.bl false, H5, I5, rfl, q5⟩
    | true => exact ite_tt (chain_last (thn (hd.run pins s5 σ H5 _ I5 q5) fun w2 s6 ⟨z3, H6, I6, r6, q6⟩ => ho'' pins s6 σ H6 z' z3 w' w2 Q I6 r4 r6 q6))
theorem pt_chain3 {op op' op'' : CmpOp} {r r' r'' : R2} (ho : OpR X (compareOp op) r) (ho' : OpR X (compareOp op') r') (ho'' : OpR X (compareOp op'') r'') (ha : PE X a ta) (hb : PE X b tb) (hc : PE X cc tc) (hd : PE X dd td)
    (hm : lastMarks [op, op', op''] [b, cc, dd] = false := by with_unfolding_all rfl) : PT X (.Compare a [op, op', op''] [b, cc, dd] pos) (tTest (tChain3 r r' r'' ta tb tc td)) := by
  refine ⟨fun pins s σ H Q I h => ?_⟩
  refine isTrue_chain (thn (ha.run pins s σ H _ I h) fun v s1 ⟨x, H1, I1, r1, q1⟩ => test_link (thn (hb.run pins s1 σ H1 _ I1 q1) fun u s2 ⟨y, H2, I2, r2, q2⟩ =>
    thn (ho pins s2 σ H2 x y v u _ I2 r1 r2 q2) fun d s3 ⟨z, H3, I3, r3, k, e, q3⟩ => ?_)) hm
  subst e
  cases r3
  refine wpAny_truthy_bool ?_
  cases k with
  | false =>
    obtain ⟨k', e', q'⟩ := q3
    cases e'
    exact ite_ff ⟨H3, I3, q'⟩
  | true =>
    refine ite_tt (test_link (thn (hc.run pins s3 σ H3 _ I3 q3) fun w' s4 ⟨z', H4, I4, r4, q4⟩ => thn (ho' pins s4 σ H4 y z' u w' _ I4 r2 r4 q4) fun d2 s5 ⟨z2, H5, I5, r5, k2, e2, q5⟩ => ?_))
    subst e2
    cases r5
    refine wpAny_truthy_bool ?_
    cases k2 with
    | false =>
      obtain ⟨k', e', q'⟩ := q5
      cases e'
      exact ite_ff ⟨H5, I5, q'⟩
    | true =>
      refine ite_tt (test_last (thn (hd.run pins s5 σ H5 _ I5 q5) fun w2 s6 ⟨z3, H6, I6, r6, q6⟩ => thn (ho'' pins s6 σ H6 z' z3 w' w2 _ I6 r4 r6 q6) fun d3 s7 ⟨z4, H7, I7, r7, k3, e3, q7⟩ => ?_))
      subst e3
      cases r7
      exact wpAny_truthy_bool ⟨H7, I7, q7⟩
def dCh3 (d2 d3 d4 : D2) (ma mb mc md : DTE) (en : En) (Q : D → Prop) : Prop := ma en fun x => mb en fun y => d2 x y fun z => asB z fun b => Cnd b (mc en fun w => d3 y w fun z => asB z fun b => Cnd b (md en fun v => d4 w v Q) (Q (.bool false))) (Q (.bool false))
theorem lift_ch3 {K : PySem.W.Frag} {r2 r3 r4 : R2} {d2 d3 d4 : D2} (sv : Serves K c r2 d2) (sv' : Serves K c r3 d3) (sv'' : Serves K c r4 d4) {σ : St} {H : Hp} {Q : VK} (h : liftE K c (dCh3 d2 d3 d4 ma mb mc md) σ H Q) : tChain3 r2 r3 r4 (liftE K c ma) (liftE K c mb) (liftE K c mc) (liftE K c md) σ H Q := by
  obtain ⟨F, en, R, r, h, k⟩ := h
  refine ⟨F, en, _, r, h, fun d hd v F1 H1 x1 rv => ?_⟩
  refine ⟨F1, en, _, r.grow x1, hd, fun e he u F2 H2 x2 ru => ?_⟩
  refine sv F2 H2 v u d e _ _ x2.self (Rep.mono x2.ff _ _ rv) ru he fun z hz v' F3 H3 x3 rz => ?_
  cases z with
  | bool i =>
    cases rz
    refine ⟨i, rfl, ?_⟩
    cases i with
    | true =>
      refine ⟨F3, en, _, (r.grow (x1.trans x2)).grow x3, hz, fun w hw v4 F4 H4 x4 r4 => ?_⟩
      refine sv' F4 H4 u v4 e w _ _ x4.self (Rep.mono x4.ff _ _ (Rep.mono x3.ff _ _ ru)) r4 hw fun z hz v5 F5 H5 x5 r5 => ?_
      have xx := x1.trans (x2.trans (x3.trans (x4.trans x5)))
      cases z with
      | bool j =>
        cases r5
        refine ⟨j, rfl, ?_⟩
        cases j with
        | true =>
          refine ⟨F5, en, _, r.grow xx, hz, fun w2 hw2 v6 F6 H6 x6 r6 => ?_⟩
          exact sv'' F6 H6 v4 v6 w w2 R Q x6.self (Rep.mono x6.ff _ _ (Rep.mono x5.ff _ _ r4)) r6 hw2 fun z hz v7 F7 H7 x7 r7 => k z hz v7 F7 H7 (xx.trans (x6.trans x7)) r7
        | false => exact k _ hz _ F5 H5 xx (.bl _)
      | _ => exact False.elim hz
    | false => exact k _ hz _ F3 H3 (x1.trans (x2.trans x3)) (.bl _)
  | _ => exact False.elim hz
theorem de_ch3 {op op' op'' : CmpOp} {r2 r3 r4 : R2} {d2 d3 d4 : D2} (ho : OpR X (compareOp op) r2) (ho' : OpR X (compareOp op') r3) (ho'' : OpR X (compareOp op'') r4) (sv : Serves X.K c r2 d2) (sv' : Serves X.K c r3 d3) (sv'' : Serves X.K c r4 d4) (ha : DE X c a ma) (hb : DE X c b mb) (hc : DE X c cc mc) (hd : DE X c dd md)
    (hm : lastMarks [op, op', op''] [b, cc, dd] = false := by with_unfolding_all rfl) : DE X c (.Compare a [op, op', op''] [b, cc, dd] pos) (dCh3 d2 d3 d4 ma mb mc md) :=
  ⟨PE.imp (pe_chain3 ho ho' ho'' ha.run hb.run hc.run hd.run hm) fun _ _ _ h => lift_ch3 sv sv' sv'' h⟩
theorem dt_ch3 {op op' op'' : CmpOp} {r2 r3 r4 : R2} {d2 d3 d4 : D2} (ho : OpR X (compareOp op) r2) (ho' : OpR X (compareOp op') r3) (ho'' : OpR X (compareOp op'') r4) (sv : Serves X.K c r2 d2) (sv' : Serves X.K c r3 d3) (sv'' : Serves X.K c r4 d4) (ha : DE X c a ma) (hb : DE X c b mb) (hc : DE X c cc mc) (hd : DE X c dd md)
    (hm : lastMarks [op, op', op''] [b, cc, dd] = false := by with_unfolding_all rfl) : DT X c (.Compare a [op, op', op''] [b, cc, dd] pos) (dT (dCh3 d2 d3 d4 ma mb mc md)) :=
  ⟨PT.imp (pt_chain3 ho ho' ho'' ha.run hb.run hc.run hd.run hm) fun _ _ _ h => lift_ch3 sv sv' sv'' (lift_test h)⟩
end
end Lay
namespace Lay
open PySem PySem.Spec L2 SrtO
open PyProof.Rows hiding St
abbrev bare (w : World) : Obj := { cls := .type "set", dict := none, data := .set #[] 0 (.fresh 0 0 (!w.params.followText "set-order")) }
section
variable {P : Program} {w : World} {A : Around} {E : Value → Shared → Prop} {s : Shared}
set_option maxHeartbeats 3200000 in
theorem set_of_list {l : Addr} {vs : Array Value} (ns : List Int) {Q : Value → Shared → Prop} (hA : A.handled = none) (hl : s.heap.IsList l vs) (hv : IntsAre vs.toList ns) (hb : ns.length + 1 < scanBound)
    (k : ∀ (g : Heap) (tk c : Nat), SetR w g s.heap.objs.size (fun j => decide (j ∈ ns)) c → c ≤ ns.length → (∀ b o, s.heap.get? b = some o → g.get? b = some o) → Q (.ref s.heap.objs.size) { s with heap := g, toks := tk }) :
    wpAny (model P w) A (call (.type "set") [.ref l]) Q E s := by
  have hn : vs.size = ns.length := by have q := hv.length; rwa [Array.length_toList] at q
  obtain ⟨mc, mt, hmro⟩ := F.called_set.mro
  have m1 := F.called_set.made
  have m2 := F.called_set.sub
  refine wpAny_call (codeAny_of_tree (show wpAny _ _ (callAny (.type "set") _) _ _ _ from wpAny_pure ⟨Code.quiet_builtin _ (by decide +kernel), codeAny_builtin F.entry_type_call ?_⟩))
  rw [Around.under_plain (weight_type_call_type "set" [.ref l] []) rfl]
  have m3 := F.called_set.notType
  have m4 := F.called_set.canCreate
  have m5 := F.typeCall_set_1 (.ref l)
  repeat (any_goals (first | assumption | wp_step))
  refine codeAny_mono (code_set_led1 (.ref l) (E := E) (Q₁ := fun x s₁ => x = .ref s.heap.objs.size ∧ s₁ = { s with heap := s.heap.push (bare w) }) ⟨rfl, rfl⟩) fun r s₁ hr => ?_
  cases r with
  | error e => exact hr
  | ok fl =>
    cases fl with
    | ret x =>
      obtain ⟨rfl, rfl⟩ := hr
      have at0 : (s.heap.push (bare w)).get? s.heap.objs.size = some (bare w) := Heap.get?_push_size _ rfl
      have ty0 : Shared.TypeIs { s with heap := s.heap.push (bare w) } (.ref s.heap.objs.size) "set" := ⟨_, at0, rfl⟩
      have m6 := F.called_set.init.lookup
      have m7 := F.called_set.init.bind (.ref s.heap.objs.size)
      repeat (any_goals (first | assumption | wp_step))
      refine codeAny_mono (codeAny_call_builtin (R := wants (fun r s₂ => r = .none ∧ ∃ g tk c, s₂ = { s with heap := g, toks := tk } ∧ SetR w g s.heap.objs.size (fun j => decide (j ∈ ns)) c ∧ c ≤ ns.length ∧ (∀ b o, s.heap.get? b = some o → g.get? b = some o)) E) F.called_set.init.plain F.entry_set_init (check_set_init_1 ty0 ?_)) fun r₂ s₂ hr₂ => ?_
      · obtain ⟨⟨c0, d0, x0, y0⟩, ho, hc0, n0, hd0⟩ := hl
        simp only at hc0 hd0
        subst hc0; subst hd0
        have ho' : (s.heap.push (bare w)).get? l = some { cls := .type "list", dict := d0, data := .seq vs n0, slots := y0 } := Heap.get?_push_of_some _ ho
        have m8 := F.sub_list_set
        have m9 := F.sub_list_frozenset
        have nodict : (Value.type "list" == Value.type "dict") = false := by decide
        have isl : (s.heap.push (bare w)).IsList l vs := ⟨_, ho', rfl, n0, rfl⟩
        unfold Builtin.«set.__init__» noKeywords Builtin.Frozenset.updateFrom
        generalize hpi : pyIter = pi
        wp_walk
        subst hpi
        refine wpAny_pyIter_list isl (wpAny_bind (wpAny_runValue ?_))
        have ls : l < s.heap.objs.size := Heap.lt_size ho
        have hA3 : A.in1.in1.in1.handled = none := by simp [hA]
        have sz : (s.heap.push (bare w)).objs.size = s.heap.objs.size + 1 := Heap.size_push ..
        have l1 : l ≠ (s.heap.push (bare w)).objs.size := by rw [sz]; exact Nat.ne_of_lt (Nat.lt_succ_of_lt ls)
        have nof : s.heap.objs.size ∉ [(s.heap.push (bare w)).objs.size, l] := by
          intro z
          rw [sz] at z
          rcases List.mem_cons.mp z with z | z
          · exact Nat.ne_of_lt (Nat.lt_succ_self _) z
          · exact Nat.ne_of_gt ls (List.mem_singleton.mp z)
        have each : ∀ (i : Nat) (v : Value), vs[i]? = some v → ∃ k t, ns[i]? = some k ∧ v = .int k t := fun i v e => by
          have hi : i < ns.length := by rw [← hn]; exact (Array.getElem?_eq_some_iff.mp e).1
          obtain ⟨t, e'⟩ := hv.int_at i v (by rw [Array.getElem?_toList]; exact e)
          have eg := List.getElem?_eq_getElem hi
          rw [List.getD_eq_getElem?_getD, eg] at e'
          exact ⟨_, t, eg, e'⟩
        refine set_update_ints ((Walks.list hA3 _ l l1 vs).toS) s.heap.objs.size nof ns hn hb each (vs.size - 0) 0 _ (by omega) (Nat.zero_le _) ⟨⟨_, Heap.get?_push_size _ rfl, rfl, rfl⟩, isl.push _⟩ ⟨0, Nat.le_refl 0, setR_new_at (Heap.get?_push_of_some _ at0)⟩ ?_
        rintro ⟨g, ge, dr, tk, os⟩ c hm hc hS
        obtain rfl : ge = s.gens := hm.gens
        obtain rfl : dr = s.drawn := hm.drawn
        obtain rfl : os = s.os := hm.os
        show wpAny _ _ _ _ _ _
        refine wpAny_pure (show wpAny _ _ (ret Value.none) _ _ _ from wpAny_pure ⟨rfl, g, tk, c, rfl, hS, by omega, fun b o e => ?_⟩)
        have bs : b < s.heap.objs.size := Heap.lt_size e
        refine hm.heap b o (fun z : b ∈ [s.heap.objs.size, (s.heap.push (bare w)).objs.size] => ?_) (Heap.get?_push_of_some _ (Heap.get?_push_of_some _ e))
        rw [sz] at z
        rcases List.mem_cons.mp z with z | z
        · exact Nat.ne_of_lt bs z
        · exact Nat.ne_of_lt (Nat.lt_succ_of_lt bs) (List.mem_singleton.mp z)
      · cases r₂ with
        | error e => exact hr₂
        | ok fl₂ =>
          cases fl₂ with
          | ret r =>
            obtain ⟨rfl, g, tk, c, rfl, z1, z2, z3⟩ := hr₂
            repeat (any_goals (first | assumption | wp_step))
            exact k _ _ _ z1 z2 z3
          | _ => exact hr₂.elim
    | _ => exact hr.elim
/-- sorted of a set, any number of members -/
theorem sorted_of_set {a : Addr} {S : Int → Bool} {n : Nat} {Q : Value → Shared → Prop} (R : SetR w s.heap a S n) (hA : A.handled = none)
    (k : ∀ s' p (out : Array Value) (c : Nat) (ns : List Int), (∀ b o, s.heap.get? b = some o → s'.heap.get? b = some o) → s'.gens = s.gens → s'.os = s.os → s.heap.objs.size ≤ p →
      s'.heap.get? p = some (seqObj "list" out c) → IntsAre out.toList ns → ns.Pairwise (· < ·) → (∀ k, k ∈ ns ↔ S k = true) → ns.length = n → Q (.ref p) s') :
    wpAny (model P w) A (call (.builtin "sorted") [.ref a]) Q E s := by
  obtain ⟨o, es, ep, t, ho, hx, hd, good, nd, mem, few, fit, hn, ris, led⟩ := R
  refine Calls.call_function_entry kind_sorted plain_sorted entry_sorted (args_sorted1 _) ?_
  unfold Builtin.«sorted»
  refine wpAny_bind (m := checkCount "sorted" 1 1 _) (wpAny_pure (wpAny_bind (collect_set (A := A.in1) hA ⟨o, ho, hx.1, hd⟩ fit few ris led fun s1 vs kp gz gg go pm => ?_)))
  have vn : vs.length = n := by rw [pm.length_eq, List.length_map, Array.length_toList]; exact hn
  have vz : vs.length ≤ sizeLine := by
    have : scanBound = 4096 := rfl
    rw [sizeLine_eq]
    omega
  have hin : IntsAre vs (vs.map Builtin.Re.reRawOf) := ints_of vs fun v m => by
    obtain ⟨e, he, rfl⟩ := List.mem_map.mp (pm.mem_iff.mp m)
    obtain ⟨i, tk, h1, _⟩ := good e he
    exact ⟨i, tk, h1⟩
  have keys : (vs.map Builtin.Re.reRawOf).Perm (es.toList.map keyOf) := by
    have q := pm.map Builtin.Re.reRawOf
    rw [List.map_map] at q
    exact q
  refine wpAny_bind (wpAny_newList ?_ vz)
  have at1 : (s1.heap.push (seqObj "list" vs.toArray 0)).get? s1.heap.objs.size = some (seqObj "list" vs.toArray 0) := Heap.get?_push_size _ rfl
  refine wpAny_bind (wpAny_holding (wpAny_call_entry slot_list_sort ⟨_, at1, rfl⟩ entry_list_sort (list_sort_ord swo_int at1 vz (fun h2 => ints_sortable hin h2) fun out h1 h2 => ⟨_, rfl, ?_⟩) (args_list_sort _)))
  obtain ⟨k1, k2, k3⟩ := ints_out hin h1 h2
  obtain ⟨c, hc⟩ := sortedHeap_at (vs := vs) (out := out.toArray) at1
  have pk := k2.trans keys
  refine wpAny_pure ⟨_, rfl, k _ s1.heap.objs.size out.toArray c _ (fun b u e => ?_) gg go gz hc k1 (lt_of_le_nodup _ k3 (pk.nodup_iff.mpr nd)) (fun i => by rw [pk.mem_iff, ← mem i]) ?_⟩
  · have q := kp b u e
    have lt := Heap.lt_size q
    show (sortedHeap (s1.heap.push (seqObj "list" vs.toArray 0)) s1.heap.objs.size vs out.toArray).get? b = some u
    rw [sortedHeap_old (Nat.ne_of_lt lt) (by rw [size_push']; exact Nat.lt_succ_of_lt lt)]
    exact Heap.get?_push_of_some _ q
  · rw [pk.length_eq, List.length_map, Array.length_toList]; exact hn
end
/-- set(xs), xs a list of ints -/
def rSetL (K : PySem.W.Frag) (w : World) : List V → Hp → VK → Prop := fun vs H Q => ∃ (a : Addr) (ns : List Int), vs = [V.ref a] ∧ SqL K H a (ns.map V.int) ∧ ns.length + 1 < 4096 ∧
  ∀ (p : Addr) (c : Nat), H p = none → c ≤ ns.length → Q (.ref p) (upd H p (SetO w p (fun j => decide (j ∈ ns)) c))
theorem cr_setL {X : Cx} (hc : X.calm = true) : CallR X (.type "set") (rSetL X.K X.w) := by
  intro pins s σ H vs us Q I r h
  obtain ⟨a, ns, rfl, hs, hn, q⟩ := h
  obtain ⟨its, rv, hl, hz⟩ := I.list hs
  rw [Vals.ref1 r]
  refine set_of_list ns (I.ok.hd hc) hl.isList (by simpa using rv.ints) hn fun g tk c z1 z2 z3 => ?_
  exact ⟨.ref _, upd H s.heap.objs.size (SetO X.w s.heap.objs.size (fun j => decide (j ∈ ns)) c), I.laid (t' := tk) z3 (Nat.le_refl _) (setO_new z1), rfl, q _ c (I.hok.fresh (Nat.le_refl _)) z2⟩
def rSortedSetA (w : World) : List V → Hp → VK → Prop := fun vs H Q => ∃ (a : Addr) (S : Int → Bool) (n : Nat), vs = [V.ref a] ∧ H a = some (SetO w a S n) ∧ n ≤ sizeLine ∧
  ∀ (ns : List Int) (p : Addr), ns.Pairwise (· < ·) → (∀ k : Int, k ∈ ns ↔ S k = true) → ns.length = n → H p = none → Q (.ref p) (upd H p (.lst (ns.map V.int)))
theorem cr_sortedSetA {X : Cx} (hc : X.calm = true) : CallR X (.builtin "sorted") (rSortedSetA X.w) := by
  intro pins s σ H vs us Q I r h
  obtain ⟨a, S, n, rfl, ha, hz, q⟩ := h
  rw [Vals.ref1 r]
  refine sorted_of_set (setO_get I ha) (I.ok.hd hc) fun s' p out c ns kp gg go hp hg hi pw mem hn => ?_
  have free : H p = none := I.hok.fresh hp
  have hv : Vals (ns.map V.int) out.toList := vals_of_ints hi
  have J : Inv X pins σ (upd H p (.lst (ns.map V.int))) { s with heap := s'.heap, gens := s'.gens, drawn := s'.drawn, toks := s'.toks } :=
    I.call (ch := []) (Un.laid kp hp free) (I.hok.laid kp hp ⟨by rw [List.length_map]; omega, out.toList, c, hv, hg⟩) (by rw [gg]; exact I.bare) (fun _ z => nomatch z)
  have e : s' = { s with heap := s'.heap, gens := s'.gens, drawn := s'.drawn, toks := s'.toks } := by
    cases s'
    cases s
    cases go
    rfl
  rw [e]
  exact ⟨.ref p, _, J, rfl, q ns p pw mem hn free⟩
/-- sorted(set(xs)) -/
def setSortD : DC := fun ds Q => match ds with
  | [.list xs] => ∃ ns : List Int, xs = ns.map .int ∧ ns.length + 1 < 4096 ∧ ∀ ms : List Int, ms.Pairwise (· < ·) → (∀ k, k ∈ ms ↔ k ∈ ns) → ms.length ≤ ns.length → Q (.list (ms.map .int))
  | _ => False
theorem lift_setSort {K : PySem.W.Frag} {c : Ct} {w : World} {ml : DTA} {n : Nat} {σ : St} {H : Hp} {Q : VK} (h : liftE K c (dB setSortD ml) σ H Q) : tCB (rSortedSetA w) (tCons (tCB (rSetL K w) (liftA K c n ml)) tNil) σ H Q := by
  obtain ⟨F, en, R, r, h, k⟩ := h
  refine ⟨F, en, _, r, h, fun ds hd vs F1 H1 x1 rv _ => ?_⟩
  unfold setSortD at hd
  split at hd
  · obtain ⟨ns, rfl, hn, hd⟩ := hd
    obtain ⟨v, rfl, r1⟩ := rv.one
    obtain ⟨a, ys, rfl, g1, g2, g3⟩ := r1.lstI
    have e2 := g2.ints_inv
    subst e2
    refine ⟨a, ns, rfl, SqL.of (x1.fh _ _ g1), hn, fun p cnt hp hc => ?_⟩
    have hs : sizeLine = 9223372036854775807 / 8 ∨ True := .inr trivial
    refine ⟨p, _, cnt, rfl, upd_same, by have : 4096 ≤ sizeLine := by decide
                                         omega, fun ms l pw mem hl hl0 => ?_⟩
    have x2 : Ext c.wo F1 H1 F1 (upd H1 p (SetO w p (fun j => decide (j ∈ ns)) cnt)) := by
      have keep : ∀ b o, H1 b = some o → upd H1 p (SetO w p (fun j => decide (j ∈ ns)) cnt) b = some o := fun b o e => by
        rw [upd_ne (fun z => by subst z; rw [hp] at e; cases e)]
        exact e
      exact ⟨fun _ _ e => e, fun b o e => keep b o (x1.fh b o e), fun b o e _ => keep b o e, fun _ _ e z => (by rw [z] at e; cases e), fun q hq => (x1.wk q hq).keep (keep _) (keep _)⟩
    have fl : upd H1 p (SetO w p (fun j => decide (j ∈ ns)) cnt) l = none := hl0
    have hr : Reps K F1 (ms.map V.int) (ms.map .int) := by
      clear pw mem hl
      induction ms with
      | nil => exact .nil
      | cons m ms ih => exact .cons (.int _) ih
    have hz : (ms.map PyData.int).length ≤ sizeLine := by
      rw [List.length_map]
      have : 4096 ≤ sizeLine := by decide
      omega
    obtain ⟨y1, y2⟩ := newLst x2.self fl hr hz
    exact k _ (hd ms pw (fun i => by rw [mem i, decide_eq_true_eq]) (by omega)) _ _ _ (x1.trans (x2.trans y1)) y2
  · exact hd.elim
theorem de_setSort {X : Cx} {c : Ct} {a : Expr} {ml : DTA} {p p2 pos q : Pos} (hc : X.calm = true) (hm : X.mg "sorted" = none) (hm2 : X.mg "set" = none) (ha : DA X c [a] ml) (hg : Gl X "sorted" := by rfl) (hg2 : Gl X "set" := by rfl)
    (he : starEach [a] X.env = (false, eval a X.env) :: starEach [] X.env := by rfl) (hpl : (backTo q (starEach [] X.env)).any (·.1) = false := by rfl)
    (he2 : starEach [.Call (.Name "set" p2) [a] [] q] X.env = (false, eval (.Call (.Name "set" p2) [a] [] q) X.env) :: starEach [] X.env := by rfl) (hpl2 : (backTo pos (starEach [] X.env)).any (·.1) = false := by rfl) :
    DE X c (.Call (.Name "sorted" p) [.Call (.Name "set" p2) [a] [] q] [] pos) (dB setSortD ml) :=
  ⟨PE.imp (pe_callB (cr_sortedSetA hc) hg hm boot_sorted (pa_cons (pe_callTy (cr_setL hc) hg2 hm2 boot_set ha.run (by decide) (by decide) he hpl) pa_nil he2) (by decide) (by decide) he2 hpl2) fun _ _ _ h => lift_setSort h⟩
end Lay
namespace Lay
open PySem PySem.Spec L2
open PyProof.Rows hiding St
def rInDict (neg : Bool) : R2 := fun x y H Q => ∃ a o, y = .ref a ∧ DGet H a x o ∧ Q (.bl (if neg then !o.isSome else o.isSome)) H
section
variable {X : Cx}
theorem op_inDict (hu : X.A.units + 64 < cLine) : OpR X (compareOp .In) (rInDict false) := by
  intro pins s σ H x y v u Q I rx ry h
  obtain ⟨a, o, rfl, g, q⟩ := h
  cases ry
  exact d_in (Nat.lt_of_le_of_lt (Nat.add_le_add_left (by decide) _) hu) I g rx fun s' I' => ⟨.bl _, H, I', rfl, q⟩
theorem op_notInDict (hu : X.A.units + 64 < cLine) : OpR X (compareOp .NotIn) (rInDict true) := by
  intro pins s σ H x y v u Q I rx ry h
  obtain ⟨a, o, rfl, g, q⟩ := h
  cases ry
  exact d_notIn (Nat.lt_of_le_of_lt (Nat.add_le_add_left (by decide) _) hu) I g rx fun s' I' => ⟨.bl _, H, I', rfl, q⟩
end
def hasK (kvs : List (Key × D)) (k : Key) : Bool := kvs.any fun kv => decide (kv.1 = k)
def keyIn (kvs : List (Key × D)) (d : D) (Q : Bool → Prop) : Prop := match d with
  | .int n => Q (hasK kvs (.inl n))
  | _ => False
/-- k in x, x a dict of the def's own -/
def dInO (neg : Bool) (i : Nat) (m : DTE) (en : En) (Q : D → Prop) : Prop := m en fun d => onDic (gt en i) fun kvs => keyIn kvs d fun b => Q (.bool (if neg then !b else b))
theorem KReps.has {K : PySem.W.Frag} {F : Hp} {k : Key} : ∀ {vs : List (Key × V)} {ds : List (Key × D)}, KReps K F vs ds → (vs.any fun kv => decide (kv.1 = k)) = hasK ds k
  | _, _, .nil => rfl
  | _, _, .cons r t => by
    unfold hasK
    rw [List.any_cons, List.any_cons, t.has]
    rfl
theorem lift_inO {K : PySem.W.Frag} {c : Ct} {neg : Bool} {i : Nat} {ma : DTE} {σ : St} {H : Hp} {Q : VK} (h : liftE K c (dInO neg i ma) σ H Q) : tOp (rInDict neg) (liftE K c ma) (tVar i) σ H Q := by
  obtain ⟨F, en, R, r, h, k⟩ := h
  refine ⟨F, en, _, r, h, fun d hd v F1 H1 x1 rv => ?_⟩
  unfold onDic at hd
  split at hd
  · rename_i kvs hg
    have r1 := r.grow x1
    obtain ⟨ov, e1, a, vs, e2, e3, e4, e5⟩ := r1.sl i _ (gt_get hg (fun z => nomatch z))
    subst e2
    unfold keyIn at hd
    split at hd
    · rename_i n
      cases rv
      refine ⟨.ref a, e1, a, _, rfl, DGet.k (k := .inl n) e3, ?_⟩
      rw [← valV_any, e4.has]
      exact k _ hd _ F1 H1 x1 (.bl _)
    · exact hd.elim
  · exact hd.elim
section
variable {X : Cx} {c : Ct} {a : Expr} {ma : DTE} {pos : Pos}
theorem de_inO (hu : X.A.units + 64 < cLine) (i : Nat) {x : Str} {px : Pos} (ha : DE X c a ma) (hN : X.N[i]? = some x := by rfl) (hv : Vis X.env.scope x := by first | exact Or.inl rfl | exact Or.inr (Or.inl rfl) | exact Or.inr (Or.inr rfl)) (hd : (x == ("__debug__" : Str)) = false := by decide) (hcd : (x == ("__classdict__" : Str)) = false := by decide) (hm : behindInMarks .In (.Name x px) = false := by rfl) :
    DE X c (.Compare a [.In] [.Name x px] pos) (dInO false i ma) := ⟨PE.imp (pe_cmpR (op_inDict hu) ha.run (pe_var hN hv hd hcd) hm) fun _ _ _ h => lift_inO h⟩
theorem dt_inO (hu : X.A.units + 64 < cLine) (i : Nat) {x : Str} {px : Pos} (ha : DE X c a ma) (hN : X.N[i]? = some x := by rfl) (hv : Vis X.env.scope x := by first | exact Or.inl rfl | exact Or.inr (Or.inl rfl) | exact Or.inr (Or.inr rfl)) (hd : (x == ("__debug__" : Str)) = false := by decide) (hcd : (x == ("__classdict__" : Str)) = false := by decide) (hm : behindInMarks .In (.Name x px) = false := by rfl) :
    DT X c (.Compare a [.In] [.Name x px] pos) (dT (dInO false i ma)) := ⟨PT.imp (pt_cmpR (op_inDict hu) ha.run (pe_var hN hv hd hcd) hm) fun _ _ _ h => lift_inO (lift_test h)⟩
theorem de_notInO (hu : X.A.units + 64 < cLine) (i : Nat) {x : Str} {px : Pos} (ha : DE X c a ma) (hN : X.N[i]? = some x := by rfl) (hv : Vis X.env.scope x := by first | exact Or.inl rfl | exact Or.inr (Or.inl rfl) | exact Or.inr (Or.inr rfl)) (hd : (x == ("__debug__" : Str)) = false := by decide) (hcd : (x == ("__classdict__" : Str)) = false := by decide) (hm : behindInMarks .NotIn (.Name x px) = false := by rfl) :
    DE X c (.Compare a [.NotIn] [.Name x px] pos) (dInO true i ma) := ⟨PE.imp (pe_cmpR (op_notInDict hu) ha.run (pe_var hN hv hd hcd) hm) fun _ _ _ h => lift_inO h⟩
theorem dt_notInO (hu : X.A.units + 64 < cLine) (i : Nat) {x : Str} {px : Pos} (ha : DE X c a ma) (hN : X.N[i]? = some x := by rfl) (hv : Vis X.env.scope x := by first | exact Or.inl rfl | exact Or.inr (Or.inl rfl) | exact Or.inr (Or.inr rfl)) (hd : (x == ("__debug__" : Str)) = false := by decide) (hcd : (x == ("__classdict__" : Str)) = false := by decide) (hm : behindInMarks .NotIn (.Name x px) = false := by rfl) :
    DT X c (.Compare a [.NotIn] [.Name x px] pos) (dT (dInO true i ma)) := ⟨PT.imp (pt_cmpR (op_notInDict hu) ha.run (pe_var hN hv hd hcd) hm) fun _ _ _ h => lift_inO (lift_test h)⟩
end
def putD (kvs : List (Key × D)) (k : Key) (d : D) : List (Key × D) := if hasK kvs k = true then kvs.map (fun kv => if kv.1 = k then (kv.1, d) else kv) else kvs ++ [(k, d)]
theorem KReps.append {K : PySem.W.Frag} {F : Hp} : ∀ {vs us : List (Key × V)} {ds es : List (Key × D)}, KReps K F vs ds → KReps K F us es → KReps K F (vs ++ us) (ds ++ es)
  | _, _, _, _, .nil, h => h
  | _, _, _, _, .cons r t, h => .cons r (t.append h)
theorem KReps.turned {K : PySem.W.Frag} {F : Hp} {k : Key} {v : V} {d : D} (rv : Rep K F v d) : ∀ {vs : List (Key × V)} {ds : List (Key × D)}, KReps K F vs ds → KReps K F (vs.map fun kv => if kv.1 = k then (kv.1, v) else kv) (ds.map fun kv => if kv.1 = k then (kv.1, d) else kv)
  | _, _, .nil => .nil
  | _, _, .cons (k := j) r t => by
    rw [List.map_cons, List.map_cons]
    by_cases z : j = k
    · rw [if_pos z, if_pos z]
      exact .cons rv (t.turned rv)
    · rw [if_neg z, if_neg z]
      exact .cons r (t.turned rv)
theorem KReps.put {K : PySem.W.Frag} {F : Hp} {k : Key} {v : V} {d : D} {vs : List (Key × V)} {ds : List (Key × D)} (h : KReps K F vs ds) (rv : Rep K F v d) : KReps K F (putK vs k v) (putD ds k d) := by
  unfold putK putD
  rw [h.has]
  split
  · exact h.turned rv
  · exact h.append (.cons rv .nil)
theorem hasK_put (kvs : List (Key × D)) (k j : Key) (d : D) : hasK (putD kvs k d) j = (hasK kvs j || decide (k = j)) := by
  unfold putD
  split
  · rename_i hk
    have e : hasK (kvs.map fun kv => if kv.1 = k then (kv.1, d) else kv) j = hasK kvs j := by
      unfold hasK
      rw [List.any_map]
      congr 1
      funext kv
      by_cases z : kv.1 = k
      · simp [z]
      · simp [z]
    rw [e]
    by_cases z : k = j
    · subst z
      rw [hk]
      rfl
    · rw [decide_eq_false z, Bool.or_false]
  · unfold hasK
    rw [List.any_append]
    simp
theorem putD_len (kvs : List (Key × D)) (k : Key) (d : D) : (putD kvs k d).length ≤ kvs.length + 1 := by
  unfold putD
  split
  · rw [List.length_map]; omega
  · rw [List.length_append]; simp
def mergeD (kvs : List (Key × D)) (more : List (Int × D)) : List (Key × D) := more.foldl (fun acc p => putD acc (.inl p.1) p.2) kvs
theorem hasK_merge (j : Int) : ∀ (more : List (Int × D)) (kvs : List (Key × D)), hasK (mergeD kvs more) (.inl j) = (hasK kvs (.inl j) || decide (j ∈ more.map (·.1)))
  | [], kvs => by simp [mergeD]
  | p :: more, kvs => by
    show hasK (mergeD (putD kvs (.inl p.1) p.2) more) (.inl j) = _
    rw [hasK_merge j more, hasK_put, List.map_cons]
    by_cases z : j = p.1
    · subst z; simp
    · have z1 : ¬ (Sum.inl p.1 : Key) = Sum.inl j := fun e => z (Sum.inl.inj e).symm
      rw [decide_eq_false z1, Bool.or_false]
      congr 1
      exact decide_eq_decide.mpr ⟨fun m => List.mem_cons_of_mem _ m, fun m => (List.mem_cons.mp m).resolve_left z⟩
theorem mergeD_len : ∀ (more : List (Int × D)) (kvs : List (Key × D)), (mergeD kvs more).length ≤ kvs.length + more.length
  | [], kvs => Nat.le_refl _
  | p :: more, kvs => by
    have h1 := mergeD_len more (putD kvs (.inl p.1) p.2)
    have h2 := putD_len kvs (.inl p.1) p.2
    show (mergeD (putD kvs (.inl p.1) p.2) more).length ≤ _
    rw [List.length_cons]
    omega
def pairD2 (p : Int × D) : D := .tuple [.int p.1, p.2]
theorem pairs_rep {K : PySem.W.Frag} {F H : Hp} (hF : ∀ a o, F a = some o → H a = some o) : ∀ {ys : List V} {ps : List (Int × D)}, Reps K F ys (ps.map pairD2) → ∃ (as : List Addr) (kvs : List (Key × V)), ys = as.map V.ref ∧ Paired (fun p kv => SqT K H p [kV kv.1, kv.2]) as kvs ∧
    ∀ vs ds, KReps K F vs ds → KReps K F (mergeK vs kvs) (mergeD ds ps)
  | ys, [], h => by
    cases h
    exact ⟨[], [], rfl, .nil, fun vs ds h => h⟩
  | ys, p :: ps, h => by
    cases h with
    | cons h1 h2 =>
      obtain ⟨as, kvs, e1, e2, e3⟩ := pairs_rep hF h2
      obtain ⟨t, xs, e, s1, s2, _⟩ := h1.tupI
      obtain ⟨v, u, rfl, q1, q2⟩ := s2.two
      cases q1
      subst e
      refine ⟨t :: as, (.inl p.1, u) :: kvs, by rw [e1]; rfl, .cons (sqT_mono hF s1) e2, fun vs ds h => ?_⟩
      show KReps K F (mergeK (putK vs (.inl p.1) u) kvs) (mergeD (putD ds (.inl p.1) p.2) ps)
      exact e3 _ _ (h.put q2)
def pairsD (ds : List D) (Q : List (Int × D) → Prop) : Prop := match ds with
  | [.list es] => ∃ ps : List (Int × D), es = ps.map pairD2 ∧ Q ps
  | _ => False
/-- x = dict(pairs) : the def's own dict -/
def dDictO (i : Nat) (ml : DTA) (R : DEnds) (en : En) : Prop := ml en fun ds => pairsD ds fun ps => ∀ kvs : List (Key × D), (∀ j : Int, hasK kvs (.inl j) = decide (j ∈ ps.map (·.1))) → R.nx (en.set i (.dic kvs))
theorem sdictO {X : Cx} {c : Ct} {a : Expr} {ml : DTA} {pos : Pos} (i : Nat) {x : Str} {p pos' spos : Pos} (hc : X.calm = true) (hm : X.mg "dict" = none) (hN : X.N.Nodup) (ha : DA X c [a] ml) (hg : Gl X "dict" := by rfl) (hi : X.N[i]? = some x := by rfl) (hx : Loc X.env.scope x := by first | exact Or.inl rfl | exact Or.inr rfl)
    (hs : swapsWith (.Call (.Name "dict" p) [a] [] pos) (some (.Name x pos')) spos.line X.env = pure false := by rfl)
    (he : starEach [a] X.env = (false, eval a X.env) :: starEach [] X.env := by rfl) (hpl : (backTo pos (starEach [] X.env)).any (·.1) = false := by rfl) (hf : X.fn x = true ∨ X.env.scope.names.lookup x = some .local := by first | exact .inl rfl | exact .inr rfl | assumption) :
    DS X c (.Assign [.Name x pos'] (.Call (.Name "dict" p) [a] [] pos) spos) (dDictO i ml) := by
  refine ⟨PS.imp (ps_set (i := i) hN hi hx (pe_callTy (call_dictP hc) hg hm PyProof.Rows.boot_dict ha.run (by decide) (by decide) he hpl) hs hf) fun D σ H h => ?_⟩
  obtain ⟨F, en, R, r, h, k⟩ := h
  refine ⟨F, en, _, r, h, fun ds hd vs F' H' x rv _ => ?_⟩
  unfold pairsD at hd
  split at hd
  · obtain ⟨ps, rfl, hd⟩ := hd
    obtain ⟨v, rfl, r1⟩ := rv.one
    obtain ⟨l, ys, rfl, g1, g2, g3⟩ := r1.lstI
    obtain ⟨as, kvs, e1, e2, e3⟩ := pairs_rep x.fh g2
    subst e1
    refine ⟨l, as, kvs, rfl, SqL.of (x.fh _ _ g1), e2, fun q hq => ?_⟩
    have hk := e3 [] [] .nil
    refine k.nx _ _ F' _ (hd (mergeD [] ps) fun j => by rw [hasK_merge]; rfl) ((r.grow x).setO hq ⟨q, mergeK [] kvs, rfl, upd_same, hk, ?_⟩) x.ff
    have := mergeD_len ps []
    rw [List.length_map] at g3
    rw [List.length_nil, Nat.zero_add] at this
    exact Nat.le_trans this g3
  · exact hd.elim
end Lay
namespace Lay
open PySem PySem.Spec L2
open PyProof.Rows hiding St
section
variable {P : Program} {w : World} {A : Around} {E : Value → Shared → Prop} {s : Shared} {l : Addr} {vs : Array Value}
theorem iter_tupA {Q : Value → Shared → Prop} (hl : s.heap.IsTuple l vs)
    (k : ∀ s₂ : Shared, s₂ = { s with heap := s.heap.push { cls := .type "tuple_iterator", data := .fields #[.ref l, .int 0 0] } } →
      (s₂.heap.IsTupleIter s.heap.objs.size l 0 ∧ s₂.heap.IsTuple l vs) → (∀ b ∈ [s.heap.objs.size, l], b < s₂.heap.objs.size) → l ≠ s.heap.objs.size → Q (.ref s.heap.objs.size) s₂) :
    wpAny (model P w) A (pyIter (.ref l)) Q E s := by
  have lt : l < s.heap.objs.size := by
    obtain ⟨_, e, _⟩ := hl
    exact Heap.lt_size e
  refine wpAny_pyIter_tuple hl (k _ rfl ⟨⟨_, Heap.get?_push_size _ rfl, rfl, rfl⟩, hl.push _⟩ (fun b m => ?_) (Nat.ne_of_lt lt))
  show b < (s.heap.push _).objs.size
  rw [Heap.size_push]
  rcases List.mem_cons.mp m with rfl | m
  · exact Nat.lt_succ_self _
  · rw [List.mem_singleton.mp m]
    exact Nat.lt_succ_of_lt lt
theorem max_tup3 {Q : Value → Shared → Prop} {a b c : Int} {ta tb tc : Tok} (hA : A.handled = none) (hl : s.heap.IsTuple l #[.int a ta, .int b tb, .int c tc])
    (k : ∀ g tk m u, (∀ d o, s.heap.get? d = some o → g.get? d = some o) → m = max (max a b) c → Q (.int m u) { s with heap := g, toks := tk }) :
    wpAny (model P w) A (call (.builtin "max") [.ref l]) Q E s := by
  refine call_max_walk (iter_tupA hl fun s₂ e st lt ne => ?_)
  subst e
  refine ⟨_, _, _, _, _, _, _, rfl, Walks.tuple (A := A.in1) hA _ l ne #[.int a ta, .int b tb, .int c tc], st, lt, by simp, Flt.cmpOf_gt #[.int a ta, .int b tb, .int c tc] (by simp [Flt.NumV.int]), fun v g tk hP kk => ?_⟩
  have ab : Flt.ltV (.int a ta) (.int b tb) = decide (a < b) := rfl
  have ac : Flt.ltV (.int a ta) (.int c tc) = decide (a < c) := rfl
  have bc : Flt.ltV (.int b tb) (.int c tc) = decide (b < c) := rfl
  have hv : ∃ m u, v = .int m u ∧ m = max (max a b) c := by
    by_cases h1 : a < b
    · by_cases h2 : b < c <;> simp [argBest, ab, ac, bc, h1, h2] at hP <;> subst hP <;> exact ⟨_, _, rfl, by omega⟩
    · by_cases h2 : a < c <;> simp [argBest, ab, ac, bc, h1, h2] at hP <;> subst hP <;> exact ⟨_, _, rfl, by omega⟩
  obtain ⟨m, u, rfl, hm⟩ := hv
  refine k g tk m u (fun d o e => kk d o (fun m => ?_) (Heap.get?_push_of_some _ e)) hm
  exact Nat.ne_of_lt (Heap.lt_size e) (List.mem_singleton.mp m)
theorem min_tup3 {Q : Value → Shared → Prop} {a b c : Int} {ta tb tc : Tok} (hA : A.handled = none) (hl : s.heap.IsTuple l #[.int a ta, .int b tb, .int c tc])
    (k : ∀ g tk m u, (∀ d o, s.heap.get? d = some o → g.get? d = some o) → m = min (min a b) c → Q (.int m u) { s with heap := g, toks := tk }) :
    wpAny (model P w) A (call (.builtin "min") [.ref l]) Q E s := by
  refine call_min_walk (iter_tupA hl fun s₂ e st lt ne => ?_)
  subst e
  refine ⟨_, _, _, _, _, _, _, rfl, Walks.tuple (A := A.in1) hA _ l ne #[.int a ta, .int b tb, .int c tc], st, lt, by simp, Flt.cmpOf_lt #[.int a ta, .int b tb, .int c tc] (by simp [Flt.NumV.int]), fun v g tk hP kk => ?_⟩
  have ba : Flt.ltV (.int b tb) (.int a ta) = decide (b < a) := rfl
  have ca : Flt.ltV (.int c tc) (.int a ta) = decide (c < a) := rfl
  have cb : Flt.ltV (.int c tc) (.int b tb) = decide (c < b) := rfl
  have hv : ∃ m u, v = .int m u ∧ m = min (min a b) c := by
    by_cases h1 : b < a
    · by_cases h2 : c < b <;> simp [argBest, ba, ca, cb, h1, h2] at hP <;> subst hP <;> exact ⟨_, _, rfl, by omega⟩
    · by_cases h2 : c < a <;> simp [argBest, ba, ca, cb, h1, h2] at hP <;> subst hP <;> exact ⟨_, _, rfl, by omega⟩
  obtain ⟨m, u, rfl, hm⟩ := hv
  refine k g tk m u (fun d o e => kk d o (fun m => ?_) (Heap.get?_push_of_some _ e)) hm
  exact Nat.ne_of_lt (Heap.lt_size e) (List.mem_singleton.mp m)
end
def rBest3 (K : PySem.W.Frag) (f : Int → Int → Int → Int) : List V → Hp → VK → Prop := fun vs H Q => ∃ (p : Addr) (a b c : Int), vs = [.ref p] ∧ SqT K H p [.int a, .int b, .int c] ∧ Q (.int (f a b c)) H
theorem three_vals {vs : List Value} {a b c : Int} (r : Vals [.int a, .int b, .int c] vs) : ∃ ta tb tc, vs = [.int a ta, .int b tb, .int c tc] := by
  obtain ⟨u1, u2, u3, rfl, ⟨ta, rfl⟩, ⟨tb, rfl⟩, ⟨tc, rfl⟩⟩ := vals3 r
  exact ⟨_, _, _, rfl⟩
theorem cr_max3 {X : Cx} (hc : X.calm = true) : CallR X (.builtin "max") (rBest3 X.K fun a b c => max (max a b) c) := by
  intro pins s σ H vs us Q I r h
  obtain ⟨p, a, b, c, rfl, hs, q⟩ := h
  obtain ⟨its, rv, hl, _⟩ := I.tuple hs
  rw [Vals.ref1 r]
  obtain ⟨ta, tb, tc, rfl⟩ := three_vals rv
  refine max_tup3 (I.ok.hd hc) hl fun g tk m u k hm => ⟨.int m, H, I.kept k, ⟨u, rfl⟩, by subst hm; exact q⟩
theorem cr_min3 {X : Cx} (hc : X.calm = true) : CallR X (.builtin "min") (rBest3 X.K fun a b c => min (min a b) c) := by
  intro pins s σ H vs us Q I r h
  obtain ⟨p, a, b, c, rfl, hs, q⟩ := h
  obtain ⟨its, rv, hl, _⟩ := I.tuple hs
  rw [Vals.ref1 r]
  obtain ⟨ta, tb, tc, rfl⟩ := three_vals rv
  refine min_tup3 (I.ok.hd hc) hl fun g tk m u k hm => ⟨.int m, H, I.kept k, ⟨u, rfl⟩, by subst hm; exact q⟩
def best3D (f : Int → Int → Int → Int) : DC := fun ds Q => match ds with | [.tuple [.int a, .int b, .int c]] => Q (.int (f a b c)) | _ => False
def maxD : DC := best3D fun a b c => max (max a b) c
def minD : DC := best3D fun a b c => min (min a b) c
theorem sv_best3 {K : PySem.W.Frag} {c : Ct} {f : Int → Int → Int → Int} : ServesC K c (rBest3 K f) (best3D f) := by
  intro F H vs ds R Q ex rv h k
  unfold best3D at h
  split at h
  · obtain ⟨v, rfl, r1⟩ := rv.one
    obtain ⟨p, ys, e, g1, g2, g3⟩ := r1.tupI
    subst e
    obtain ⟨x, y, z, rfl, q1, q2, q3⟩ := g2.three
    cases q1; cases q2; cases q3
    exact ⟨p, _, _, _, rfl, sqT_mono ex.fh g1, k _ h _ F H ex (.int _)⟩
  · exact h.elim
section
variable {X : Cx} {c : Ct} {a : Expr} {ml : DTA} {pos : Pos}
theorem de_max1 {p : Pos} (hc : X.calm = true) (hg : Gl X "max") (hm : X.mg "max" = none) (ha : DA X c [a] ml) (he : starEach [a] X.env = (false, eval a X.env) :: starEach [] X.env := by rfl) (hpl : (backTo pos (starEach [] X.env)).any (·.1) = false := by rfl) : DE X c (.Call (.Name "max" p) [a] [] pos) (dB maxD ml) :=
  de_callB (cr_max3 hc) sv_best3 hg hm boot_max ha (by decide) (by decide) he hpl
theorem de_min1 {p : Pos} (hc : X.calm = true) (hg : Gl X "min") (hm : X.mg "min" = none) (ha : DA X c [a] ml) (he : starEach [a] X.env = (false, eval a X.env) :: starEach [] X.env := by rfl) (hpl : (backTo pos (starEach [] X.env)).any (·.1) = false := by rfl) : DE X c (.Call (.Name "min" p) [a] [] pos) (dB minD ml) :=
  de_callB (cr_min3 hc) sv_best3 hg hm boot_min ha (by decide) (by decide) he hpl
end
end Lay
namespace Lay
open PySem PySem.Spec L2
open PyProof.Rows hiding St
/-- x = {} -/
def dNewO (i : Nat) (R : DEnds) (en : En) : Prop := R.nx (en.set i (.dic []))
theorem snewO {X : Cx} {c : Ct} {pos : Pos} (i : Nat) {x : Str} {pos' spos : Pos} (hN : X.N.Nodup) (hi : X.N[i]? = some x := by rfl) (hx : Loc X.env.scope x := by first | exact Or.inl rfl | exact Or.inr rfl)
    (hs : swapsWith (.Dict [] [] pos) (some (.Name x pos')) spos.line X.env = pure false := by rfl) (hf : X.fn x = true ∨ X.env.scope.names.lookup x = some .local := by first | exact .inl rfl | exact .inr rfl | assumption) :
    DS X c (.Assign [.Name x pos'] (.Dict [] [] pos) spos) (dNewO i) := by
  refine ⟨PS.imp (ps_set (i := i) hN hi hx pe_dnewK hs hf) fun D σ H h => ?_⟩
  obtain ⟨F, en, R, r, h, k⟩ := h
  exact fun p hp => k.nx _ _ F _ h (r.setO hp ⟨p, [], rfl, upd_same, .nil, Nat.zero_le _⟩) fun _ _ e => e
theorem KReps.keys {K : PySem.W.Frag} {F : Hp} : ∀ {vs : List (Key × V)} {ds : List (Key × D)}, KReps K F vs ds → vs.map (·.1) = ds.map (·.1)
  | _, _, .nil => rfl
  | _, _, .cons r t => by rw [List.map_cons, List.map_cons, t.keys]
theorem KReps.len {K : PySem.W.Frag} {F : Hp} {vs : List (Key × V)} {ds : List (Key × D)} (h : KReps K F vs ds) : vs.length = ds.length := by
  have e := congrArg List.length h.keys
  rw [List.length_map, List.length_map] at e
  exact e
def putKD (d : D) (kvs : List (Key × D)) (v : D) (Q : List (Key × D) → Prop) : Prop := match d with
  | .int n => kvs.length < 4096 ∧ Q (putD kvs (.inl n) v)
  | _ => False
theorem putKD_int {n : Int} {kvs : List (Key × D)} {v : D} {Q : List (Key × D) → Prop} : putKD (.int n) kvs v Q = (kvs.length < 4096 ∧ Q (putD kvs (.inl n) v)) := rfl
/-- x[k] = v -/
def dPutO (i : Nat) (mk mv : DTE) (R : DEnds) (en : En) : Prop := mv en fun v => onDic (gt en i) fun kvs => mk en fun k => putKD k kvs v fun kvs => R.nx (en.set i (.dic kvs))
theorem sputO {X : Cx} {c : Ct} {e b : Expr} {mk mv : DTE} {pos : Pos} (hu : X.A.units + 64 < cLine) (i : Nat) {x : Str} {px p2 : Pos} (hk : DE X c b mk) (hv : DE X c e mv) (hN : X.N[i]? = some x := by rfl) (hvis : Vis X.env.scope x := by first | exact Or.inl rfl | exact Or.inr (Or.inl rfl) | exact Or.inr (Or.inr rfl)) (hd : (x == ("__debug__" : Str)) = false := by decide) (hcd : (x == ("__classdict__" : Str)) = false := by decide)
    (hs : swapsWith e (some (.Subscript (.Name x px) b p2)) pos.line X.env = pure false := by rfl) :
    DS X c (.Assign [.Subscript (.Name x px) b p2] e pos) (dPutO i mk mv) := by
  refine ⟨PS.imp (ps_dput (Nat.lt_of_le_of_lt (Nat.add_le_add_left (by decide) _) hu) (pe_var hN hvis hd hcd) hk.run hv.run hs) fun D σ H h => ?_⟩
  obtain ⟨F, en, R, r, h, k⟩ := h
  refine ⟨F, en, _, r, h, fun d hd v F1 H1 x1 rv => ?_⟩
  unfold onDic at hd
  split at hd
  · rename_i kvs hg
    have hen := gt_get hg (fun z => nomatch z)
    have g := r.grow x1
    obtain ⟨ov, e1, p, vs, e2, e3, e4, e5⟩ := g.sl i _ hen
    subst e2
    refine ⟨_, e1, F1, en, _, g, hd, fun kd hk kv F2 H2 x2 rk => ?_⟩
    cases kd with
    | int n =>
      cases rk
      obtain ⟨hl, hk⟩ := hk
      have g2 := g.grow x2
      have ha : ownAt σ en i p := ⟨e1, _, hen, rfl⟩
      obtain ⟨ov', e1', p', vs', e2', e3', e4', e5'⟩ := g2.sl i _ hen
      subst e2'
      rw [e1] at e1'
      cases e1'
      have rv' := Rep.mono x2.ff _ _ rv
      have hn : vs'.length < sizeLine := by
        rw [e4'.len]
        exact Nat.lt_of_lt_of_le hl (by decide)
      refine ⟨p, _, rfl, DPut.k (k := .inl n) e3' hn, ?_⟩
      refine k.nx _ _ F2 _ hk (g2.turn ha ⟨p, _, rfl, upd_same, e4'.put rv', ?_⟩) (fun b o q => x2.ff _ _ (x1.ff _ _ q))
      have := putD_len kvs (.inl n) d
      have : 4097 ≤ sizeLine := by decide
      omega
    | _ => exact False.elim hk
  · exact hd.elim
/-- sorted(x) -/
def dSortedO (i : Nat) (en : En) (Q : D → Prop) : Prop := onDic (gt en i) fun kvs => ∃ ks : List Int, kvs.map (·.1) = ks.map Sum.inl ∧ ks.length < 64 ∧ ∀ ys : List Int, ys.Perm ks → ys.Pairwise (· ≤ ·) → Q (.list (ys.map .int))
theorem de_sortedO {X : Cx} {c : Ct} {pos : Pos} (i : Nat) {x : Str} {p px : Pos} (hc : X.calm = true) (hm : X.mg "sorted" = none) (hg : Gl X "sorted" := by rfl) (hN : X.N[i]? = some x := by rfl) (hv : Vis X.env.scope x := by first | exact Or.inl rfl | exact Or.inr (Or.inl rfl) | exact Or.inr (Or.inr rfl)) (hd : (x == ("__debug__" : Str)) = false := by decide) (hcd : (x == ("__classdict__" : Str)) = false := by decide)
    (he : starEach [.Name x px] X.env = (false, eval (.Name x px) X.env) :: starEach [] X.env := by rfl) (hpl : (backTo pos (starEach [] X.env)).any (·.1) = false := by rfl) : DE X c (.Call (.Name "sorted" p) [.Name x px] [] pos) (dSortedO i) := by
  refine ⟨PE.imp (pe_callB (call_sortedDI hc) hg hm boot_sorted (pa_cons (pe_var hN hv hd hcd) pa_nil he) (by decide) (by decide) he hpl) fun σ H Q h => ?_⟩
  obtain ⟨F, en, R, r, h, k⟩ := h
  unfold dSortedO onDic at h
  split at h
  · rename_i kvs hg
    obtain ⟨ov, e1, p, vs, e2, e3, e4, e5⟩ := r.sl i _ (gt_get hg (fun z => nomatch z))
    subst e2
    obtain ⟨ks, hk, h64, hd⟩ := h
    refine ⟨_, e1, p, vs, ks, rfl, .inl e3, e4.keys.trans hk, h64, fun ys l hp hw hl => ?_⟩
    have hr : Reps X.K F (ys.map V.int) (ys.map .int) := by
      clear hp hw
      induction ys with
      | nil => exact .nil
      | cons m ms ih => exact .cons (.int _) ih
    have hz : (ys.map PyData.int).length ≤ sizeLine := by
      rw [List.length_map, hp.length_eq]
      have : 64 ≤ sizeLine := by decide
      omega
    obtain ⟨y1, y2⟩ := newLst r.ext.self hl hr hz
    exact k _ (hd ys hp hw) _ _ _ y1 y2
  · exact h.elim
end Lay
namespace Lay
open PySem PySem.Spec L2
open PyProof.Rows hiding St
def par3O (i j l : Nat) (ds : List D) (en : En) (Q : En → Prop) : Prop := match ds with | [d, e] => Q (((en.set i (.own [])).set j (.val d)).set l (.val e)) | _ => False
theorem par3O_two {i j l : Nat} {d e : D} {en : En} {Q : En → Prop} : par3O i j l [d, e] en Q = Q (((en.set i (.own [])).set j (.val d)).set l (.val e)) := rfl
def dPar3O (i j l : Nat) (ml : DTA) (R : DEnds) (en : En) : Prop := ml en fun ds => par3O i j l ds en R.nx
def parO2 (i j : Nat) (ds : List D) (en : En) (Q : En → Prop) : Prop := match ds with | [d] => Q ((en.set i (.val d)).set j (.own [])) | _ => False
theorem parO2_one {i j : Nat} {d : D} {en : En} {Q : En → Prop} : parO2 i j [d] en Q = Q ((en.set i (.val d)).set j (.own [])) := rfl
def dParO2 (i j : Nat) (ml : DTA) (R : DEnds) (en : En) : Prop := ml en fun ds => parO2 i j ds en R.nx
section
variable {X : Cx} {c : Ct} {a b d : Expr} {ml : DTA} {pos : Pos}
theorem spar3O (i j l : Nat) {x y z : Str} {px py pz pt lp : Pos} {kt k2 pt2} (hN : X.N.Nodup) (ha : DA X c [b, d] ml) (hc : X.calm = true := by rfl) (hi : X.N[i]? = some x := by rfl) (hj : X.N[j]? = some y := by rfl) (hl : X.N[l]? = some z := by rfl) (hij : i ≠ j := by decide) (hil : i ≠ l := by decide) (hjl : j ≠ l := by decide)
    (hx : X.env.scope.names.lookup x = some .local := by rfl) (hy : X.env.scope.names.lookup y = some .local := by rfl) (hz : X.env.scope.names.lookup z = some .local := by rfl)
    (hw : swappedStores [.Tuple [.Name x px, .Name y py, .Name z pz] kt pt] (.Tuple [.List [] lp, b, d] k2 pt2) X.env = pure (some [x, y, z]) := by rfl)
    (hs : swapsWithSole [.Tuple [.Name x px, .Name y py, .Name z pz] kt pt] (.Tuple [.List [] lp, b, d] k2 pt2) pos.line X.env = pure false := by rfl)
    (he : starEach [.List [] lp, b, d] X.env = (false, eval (.List [] lp) X.env) :: starEach [b, d] X.env := by rfl) :
    DS X c (.Assign [.Tuple [.Name x px, .Name y py, .Name z pz] kt pt] (.Tuple [.List [] lp, b, d] k2 pt2) pos) (dPar3O i j l ml) := by
  refine ⟨PS.imp (ps_par3 hc hN hi hj hl hij hil hjl hx hy hz (pa_cons (pe_lst pa_nil) ha.run he) hw hs) fun D σ H h => ?_⟩
  obtain ⟨F, en, R, r, h, k⟩ := h
  refine ⟨Nat.zero_le _, fun p hp => ?_⟩
  have fp : F p = none := by
    cases q : F p with
    | none => rfl
    | some u => rw [r.fh _ _ q] at hp; cases hp
  have x1 : Ext c.wo F H F (upd H p (.lst [])) := r.ext.self.poke hp fp (r.ext.wne hp)
  refine ⟨F, en, _, r.grow x1, h, fun ds hd vs F' H' x rv hn => ?_⟩
  unfold par3O at hd
  split at hd
  · obtain ⟨v, u, rfl, r1, r2⟩ := rv.two
    have r0 : SR X.K c F (σ.set i (some (.ref p))) (upd H p (.lst [])) (en.set i (.own [])) := r.setO hp ⟨p, [], rfl, upd_same, .nil, Nat.zero_le _⟩
    exact ⟨.ref p, v, u, rfl, k.nx _ _ F' H' hd (((r0.grow x).set r1).set r2) x.ff⟩
  · exact hd.elim
theorem sparO2 (i j : Nat) {x y : Str} {px py pt lp : Pos} {kt k2 pt2} (hN : X.N.Nodup) (ha : DE X c a ma) (hc : X.calm = true := by rfl) (hi : X.N[i]? = some x := by rfl) (hj : X.N[j]? = some y := by rfl) (hij : i ≠ j := by decide)
    (hx : X.env.scope.names.lookup x = some .local := by rfl) (hy : X.env.scope.names.lookup y = some .local := by rfl)
    (hw : swappedStores [.Tuple [.Name x px, .Name y py] kt pt] (.Tuple [a, .List [] lp] k2 pt2) X.env = pure (some [x, y]) := by rfl)
    (hs : swapsWithSole [.Tuple [.Name x px, .Name y py] kt pt] (.Tuple [a, .List [] lp] k2 pt2) pos.line X.env = pure false := by rfl)
    (he : starEach [a, .List [] lp] X.env = (false, eval a X.env) :: starEach [.List [] lp] X.env := by rfl) (he2 : starEach [.List [] lp] X.env = (false, eval (.List [] lp) X.env) :: starEach [] X.env := by rfl) :
    DS X c (.Assign [.Tuple [.Name x px, .Name y py] kt pt] (.Tuple [a, .List [] lp] k2 pt2) pos) (dParO2 i j (dCons ma dNil)) := by
  refine ⟨PS.imp (ps_par hc hN hi hj hij hx hy (pa_cons ha.run (pa_cons (pe_lst pa_nil) pa_nil he2) he) hw hs) fun D σ H h => ?_⟩
  obtain ⟨F, en, R, r, h, k⟩ := h
  refine ⟨F, en, _, r, h, fun e hd v F1 H1 x rv => ?_⟩
  refine ⟨Nat.zero_le _, fun p hp => ?_⟩
  have r1 := (r.grow x).set (i := i) rv
  have r0 : SR X.K c F1 ((σ.set i (some v)).set j (some (.ref p))) (upd H1 p (.lst [])) ((en.set i (.val e)).set j (.own [])) := r1.setO hp ⟨p, [], rfl, upd_same, .nil, Nat.zero_le _⟩
  exact ⟨v, .ref p, rfl, k.nx _ _ F1 _ hd r0 x.ff⟩
end
end Lay
namespace Lay
open PySem PySem.Spec L2
open PyProof.Rows hiding St
def minLD : DC := fun ds Q => match ds with | [.list xs] => ∃ ns : List Int, xs = ns.map .int ∧ 0 < ns.length ∧ ∀ m, m ∈ ns → (∀ y, y ∈ ns → m ≤ y) → Q (.int m) | _ => False
section
variable {X : Cx} {c : Ct} {a : Expr} {ml : DTA} {pos : Pos}
theorem sv_minL {K : PySem.W.Frag} : ServesC K c (rMin K) minLD := by
  intro F H vs ds R Q ex rv h k
  unfold minLD at h
  split at h
  · obtain ⟨ns, rfl, h0, h⟩ := h
    obtain ⟨v, rfl, r1⟩ := rv.one
    obtain ⟨p, ys, rfl, g1, g2, g3⟩ := r1.lstI
    have e := g2.ints_inv
    subst e
    exact ⟨p, ns, rfl, SqL.of (ex.fh _ _ g1), h0, fun m h1 h2 => k _ (h m h1 h2) _ F H ex (.int _)⟩
  · exact h.elim
theorem de_minL {p : Pos} (hc : X.calm = true) (hm : X.mg "min" = none) (ha : DA X c [a] ml) (hg : Gl X "min" := by rfl) (he : starEach [a] X.env = (false, eval a X.env) :: starEach [] X.env := by rfl) (hpl : (backTo pos (starEach [] X.env)).any (·.1) = false := by rfl) : DE X c (.Call (.Name "min" p) [a] [] pos) (dB minLD ml) :=
  de_callB (cr_min hc) sv_minL hg hm boot_min ha (by decide) (by decide) he hpl
end
theorem minLD_lst {xs : List D} {Q : D → Prop} : minLD [.list xs] Q = ∃ ns : List Int, xs = ns.map .int ∧ 0 < ns.length ∧ ∀ m, m ∈ ns → (∀ y, y ∈ ns → m ≤ y) → Q (.int m) := rfl
theorem memD_str {n : Str} : ∀ ns : List Str, memD (.str n) (ns.map .str) = decide (n ∈ ns)
  | [] => rfl
  | k :: ns => by
    have q := memD_str (n := n) ns
    unfold memD at q ⊢
    rw [List.map_cons, List.any_cons, q]
    by_cases h : k = n
    · subst h; simp [eqv_str]
    · have h' : ¬ n = k := fun z => h z.symm
      simp [eqv_str, h, h']
theorem flat_strs : ∀ ns : List Str, (ns.map PyData.str).all flatD = true
  | [] => rfl
  | n :: ns => by rw [List.map_cons, List.all_cons, flat_strs ns]; rfl
theorem in_tupS {neg : Bool} {n : Str} (ns : List Str) {Q : D → Prop} (h : Q (.bool (if neg then !decide (n ∈ ns) else decide (n ∈ ns)))) : inD neg (.str n) (.tuple (ns.map .str)) Q := by
  show (flatD (.str n) = true ∧ _) ∧ _
  refine ⟨⟨rfl, flat_strs ns⟩, ?_⟩
  rw [memD_str]; exact h
end Lay
namespace Lay
open PySem PySem.Spec L2
open PyProof.Rows hiding St
section
variable {z : Bool} {g : DTG} {mt : DTT} {me : DTE} {vs : List Nat} {en : En} {Q : D → Prop} {ds : List D}
theorem lc_rel (Pr : D → D → Prop) (hz : z = false → ds.length ≤ sizeLine)
    (h : ∀ d ∈ ds, ∀ P : Option D → Prop, (∀ y, Pr d y → P (some y)) → g d (wipeE en vs) fun en' => mt en' fun b => Cnd b (me en' fun y => P (some y)) (P none))
    (q : ∀ ys : List D, ys.length = ds.length → (∀ (i : Nat) d y, ds[i]? = some d → ys[i]? = some y → Pr d y) → Q (.list ys)) : LcW z g mt me vs ds en Q := by
  refine ⟨hz, fun i acc => acc.length = i ∧ ∀ (j : Nat) d y, ds[j]? = some d → acc[j]? = some y → Pr d y, ⟨rfl, fun j d y _ e => by simp at e⟩, fun i d acc hd _ ⟨hl, ha⟩ => ?_, fun acc _ ⟨hl, ha⟩ => q acc hl ha⟩
  refine h d (List.mem_of_getElem? hd) (fun o => match o with | some y => (acc ++ [y]).length = i + 1 ∧ ∀ (j : Nat) (d y_1 : D), ds[j]? = some d → (acc ++ [y])[j]? = some y_1 → Pr d y_1 | none => acc.length = i + 1 ∧ ∀ (j : Nat) (d y : D), ds[j]? = some d → acc[j]? = some y → Pr d y) fun y hy => ?_
  refine ⟨by rw [List.length_append, hl]; rfl, fun j d' y' e1 e2 => ?_⟩
  rcases Nat.lt_or_ge j acc.length with c | c
  · rw [List.getElem?_append_left c] at e2
    exact ha j d' y' e1 e2
  · rw [List.getElem?_append_right c] at e2
    have hj : j = i := by
      have := (List.getElem?_eq_some_iff.mp e2).1
      simp only [List.length_cons, List.length_nil] at this
      omega
    subst hj
    rw [hl, Nat.sub_self] at e2
    simp only [List.getElem?_cons_zero, Option.some.injEq] at e2
    subst e2
    rw [hd] at e1
    cases e1
    exact hy
theorem lc_each (Pr : D → Prop) (hz : z = false → ds.length ≤ sizeLine)
    (h : ∀ d ∈ ds, ∀ P : Option D → Prop, (∀ y, Pr y → P (some y)) → g d (wipeE en vs) fun en' => mt en' fun b => Cnd b (me en' fun y => P (some y)) (P none))
    (q : ∀ ys : List D, ys.length = ds.length → (∀ y ∈ ys, Pr y) → Q (.list ys)) : LcW z g mt me vs ds en Q :=
  lc_rel (fun _ y => Pr y) hz h fun ys hl hy => q ys hl fun y m => by
    obtain ⟨i, hi, e⟩ := List.mem_iff_getElem.mp m
    exact hy i (ds[i]'(by omega)) y (List.getElem?_eq_getElem (by omega)) (by rw [List.getElem?_eq_getElem hi, e])
end
end Lay
namespace Lay
open PySem PySem.Spec L2
open PyProof.Rows hiding St
abbrev KRow := List Key × Addr × V
def mergeT (rows : List KRow) : List (List Key × V) := rows.foldl (fun acc x => putK acc x.1 x.2.2) []
def tDispT (trs : List (TE × TE)) : TE := fun σ H Q => ∀ p, H p = none → tPairs trs σ (upd H p (.dT [])) fun ps H2 => H2 p = some (.dT []) ∧ ∃ rows : List KRow, ps = rows.map (fun x => (V.ref x.2.1, x.2.2)) ∧ (∀ x ∈ rows, H2 x.2.1 = some (.tup (x.1.map kV))) ∧ rows.length ≤ 15 ∧
  ∀ od, Q (.ref p) (upd H2 p (.frz od (.dT (mergeT rows))))
section
variable {X : Cx} {pos : Pos}
abbrev knT (X : Cx) := tupleKind (mixKind X.prog X.w)
theorem carriesT {h : Heap} : ∀ {rows : List KRow} {ws : List (Value × Value)}, VV (rows.map fun x => (V.ref x.2.1, x.2.2)) ws → (∀ x ∈ rows, (knT X).is h x.1 x.2.1) →
    ∃ es : List (List Key × Addr × Value), CarriesH (knT X) h ws es ∧ Paired (fun (x : KRow) (y : List Key × Addr × Value) => x.1 = y.1 ∧ x.2.1 = y.2.1 ∧ RelV x.2.2 y.2.2) rows es
  | [], _, r, _ => by rw [List.map_nil] at r; cases r; exact ⟨[], True.intro, .nil⟩
  | x :: rows, _, r, hk => by
    rw [List.map_cons] at r
    cases r with
    | @cons _ b _ bs q t =>
      obtain ⟨es, c1, c2⟩ := carriesT (h := h) t fun y hy => hk y (List.mem_cons_of_mem _ hy)
      obtain ⟨b1, b2⟩ := b
      exact ⟨(x.1, x.2.1, b2) :: es, ⟨q.1, rfl, hk x List.mem_cons_self, c1⟩, .cons ⟨rfl, rfl, q.2⟩ c2⟩
theorem kt_fold {H : Hp} : ∀ {rows : List KRow} {es : List (List Key × Addr × Value)}, Paired (fun (x : KRow) (y : List Key × Addr × Value) => x.1 = y.1 ∧ x.2.1 = y.2.1 ∧ RelV x.2.2 y.2.2) rows es → (∀ x ∈ rows, H x.2.1 = some (.tup (x.1.map kV))) →
    ∀ {acc : List (List Key × V)} {acc' : List (List Key × Addr × Value)}, KT H acc acc' → KT H (rows.foldl (fun acc x => putK acc x.1 x.2.2) acc) (storedAllH acc' es) := by
  intro rows es r
  induction r with
  | nil => intro _ _ _ q; exact q
  | @cons x y xs ys h _ ih =>
    intro ht acc acc' q
    obtain ⟨h1, h2, h3⟩ := h
    have step : KT H (putK acc x.1 x.2.2) (storedH acc' y.1 y.2.1 y.2.2) := by
      rw [← h1, ← h2]
      exact q.put x.1 (ht x List.mem_cons_self) h3
    exact ih (fun z hz => ht z (List.mem_cons_of_mem _ hz)) step
theorem len_fold : ∀ (rows : List KRow) (acc : List (List Key × V)), (rows.foldl (fun acc x => putK acc x.1 x.2.2) acc).length ≤ acc.length + rows.length
  | [], _ => Nat.le_refl _
  | x :: rows, acc => by
    have h1 := len_fold rows (putK acc x.1 x.2.2)
    have h2 := length_putK acc x.1 x.2.2
    rw [List.foldl_cons, List.length_cons]
    omega
theorem pe_dispT {keys : List (Option Expr)} {values : List Expr} {trs : List (TE × TE)} (hu : X.A.units + 64 < cLine) (h : PPs X pos keys values trs) (hall : keys.all (·.isSome) = true) (hl : keys.length = values.length) (h0 : keys ≠ []) (h15 : keys.length ≤ 15) :
    PE X (.Dict keys values pos) (tDispT trs) := by
  refine ⟨fun pins s σ H Q I q => ?_⟩
  have hn := I.hok.fresh (Nat.le_refl s.heap.objs.size)
  have I1 := I.laid (a := s.heap.objs.size) (o := .dT []) (h' := s.heap.push { cls := .type "dict", data := .dict #[] }) (t' := s.toks) (fun _ _ q => Heap.get?_push_of_some _ q) (Nat.le_refl _) (dt_empty s.heap I.big)
  have hp := pairTrees_length keys values X.env pos hall hl
  have hne : pairTrees keys values X.env pos ≠ [] := fun e => by
    rw [e] at hp
    exact h0 (List.length_eq_zero_iff.mp hp.symm)
  have room : (knT X).room X.A := show X.A.units < cLine by omega
  rw [arm_eval_Dict, zip_pairTrees keys values X.env pos hall hl, dictDisplay_pairs _ hne (by omega)]
  refine wpAny_bind (wpAny_standAt (wpAny_bind (wpAny_subDictH (knd := knT X) room (by omega) (thn (h.run pins _ σ _ _ I1 (q _ hn)) fun ws s2 ⟨ps, H2, I2, rel, e, rows, ep, ht, lk, q2⟩ => ?_))))
  subst ep
  obtain ⟨es, c1, c2⟩ := carriesT (X := X) (h := s2.heap) rel fun x hx => key_of I2.hok (ht x hx)
  obtain ⟨z, hd, xs0, r0, dd⟩ := dt_of I2.hok e
  cases r0
  refine ⟨es, c1, dd, fun h' tk dd' hs => wpAny_pure ?_⟩
  have hz : (mergeT rows).length ≤ sizeLine := by
    have h1 := len_fold rows []
    rw [List.length_nil] at h1
    unfold mergeT
    rw [sizeLine_eq]
    omega
  have kt := kt_fold (H := H2) c2 ht (acc := []) (acc' := []) .nil
  obtain ⟨ob, ents, ep, hq, k2, k3, k4, _, k5⟩ := dd'
  have J : Inv X pins σ (upd H2 s.heap.objs.size (.dT (mergeT rows))) { s2 with heap := h', toks := tk } :=
    d_write I2 (by rw [e]; exact True.intro) hs ⟨ob, hq⟩ ⟨hz, hd, _, kt.keeps fun c ys ec => by
      rw [upd_ne (ne_of ec e (fun z => nomatch z))]
      exact ec, ob, ents, ep, hq, k2, k3, k4, k5⟩
  obtain ⟨od, J2⟩ := J.lock (d := s.heap.objs.size) (u := .dT (mergeT rows)) upd_same True.intro
  rw [upd_upd] at J2
  exact ⟨.ref s.heap.objs.size, _, J2, rfl, q2 od⟩
end
def onPair (ds : List D) (K : Int → Int → Prop) : Prop := match ds with | [.int i, .int j] => K i j | _ => False
theorem onPair_ii {i j : Int} {K : Int → Int → Prop} : onPair [.int i, .int j] K = K i j := rfl
def rdPairs : List DTA → En → (List (Int × Int) → Prop) → Prop
  | [], _, Q => Q []
  | m :: r, en, Q => m en fun ds => onPair ds fun i j => rdPairs r en fun ks => Q ((i, j) :: ks)
theorem rdPairs_nil {en : En} {Q : List (Int × Int) → Prop} : rdPairs [] en Q = Q [] := rfl
theorem rdPairs_cons {m : DTA} {r : List DTA} {en : En} {Q : List (Int × Int) → Prop} : rdPairs (m :: r) en Q = m en fun ds => onPair ds fun i j => rdPairs r en fun ks => Q ((i, j) :: ks) := rfl
def firsts (ks : List (Int × Int)) : List (Int × Int) := ks.foldl (fun acc k => if k ∈ acc then acc else acc ++ [k]) []
def pairI (k : Int × Int) : D := .tuple [.int k.1, .int k.2]
def keyI (k : Int × Int) : List Key := [.inl k.1, .inl k.2]
def dKeysW (rs : List DTA) (en : En) (Q : List D → Prop) : Prop := rdPairs rs en fun ks => Q ((firsts ks).map pairI)
inductive DKs (X : Cx) (c : Ct) : List (Option Expr) → List Expr → List DTA → List (TE × TE) → Prop
  | nil : DKs X c [] [] [] []
  | cons {a b v : Expr} {n} {tp : Pos} {i : Int} {ml : DTA} {ks : List (Option Expr)} {vs : List Expr} {rs : List DTA} {ts : List (TE × TE)} : DA X c [a, b] ml → PE X v (tC (.int i)) → DKs X c ks vs rs ts →
      DKs X c (some (.Tuple [a, b] n tp) :: ks) (v :: vs) (ml :: rs) ((tTup (liftA X.K c 2 ml), tC (.int i)) :: ts)
section
variable {X : Cx} {c : Ct} {pos : Pos}
theorem DKs.pps {ks : List (Option Expr)} {vs : List Expr} {rs : List DTA} {ts : List (TE × TE)} (h : DKs X c ks vs rs ts) : PPs X pos ks vs ts := by
  induction h with
  | nil => exact pps_nil
  | cons h1 h2 _ ih => exact pps_cons (pe_tup h1.run) h2 ih
theorem DKs.lift {ks : List (Option Expr)} {vs : List Expr} {rs : List DTA} {ts : List (TE × TE)} (h : DKs X c ks vs rs ts) :
    ∀ {σ : St} {F H : Hp} {en : En} {Q : List (Int × Int) → Prop} {R : List (V × V) → Hp → Prop}, SR X.K c F σ H en → rdPairs rs en Q →
      (∀ (F2 H2 : Hp) (rows : List KRow) (ns : List (Int × Int)), Q ns → Ext c.wo F H F2 H2 → rows.map (·.1) = ns.map keyI → (∀ x ∈ rows, H2 x.2.1 = some (.tup (x.1.map kV))) → rows.length = ks.length → R (rows.map fun x => (V.ref x.2.1, x.2.2)) H2) → tPairs ts σ H R := by
  induction h with
  | nil =>
    intro σ F H en Q R r h k
    exact k F H [] [] h r.ext.self rfl (fun x hx => nomatch hx) rfl
  | @cons a b v n tp i ml ks vs rs ts h1 h2 _ ih =>
    intro σ F H en Q R r h k
    refine ⟨F, en, _, r, h, fun ds hd ws F1 H1 x1 rv hn => ?_⟩
    unfold onPair at hd
    split at hd
    · rename_i i1 j1
      cases rv with
      | cons ra rv =>
        cases rv with
        | cons rb rv =>
          cases rv
          cases ra
          cases rb
          have two : 2 ≤ sizeLine := by decide
          refine ⟨two, fun p hp => ?_⟩
          obtain ⟨y1, y2⟩ := newTup (c := c) (K := X.K) (ds := [.int i1, .int j1]) x1.self hp (.cons (.int _) (.cons (.int _) .nil)) two
          refine ih ((r.grow x1).grow y1) hd fun F2 H2 rows ns hq x2 em ht hl => ?_
          refine k F2 H2 (([.inl i1, .inl j1], p, .int i) :: rows) ((i1, j1) :: ns) hq (x1.trans (y1.trans x2)) (by rw [List.map_cons, em]; rfl) (fun x hx => ?_) (by rw [List.length_cons, List.length_cons, hl])
          rcases List.mem_cons.mp hx with rfl | hx
          · have hw : ¬ isW c.wo p := fun ⟨d, q⟩ => (x1.wne hp _ q).1 rfl
            exact x2.hh _ _ upd_same hw
          · exact ht x hx
    · exact hd.elim
theorem fold_keys : ∀ (rows : List KRow) (ns acc : List (Int × Int)) (kvs : List (List Key × V)), rows.map (·.1) = ns.map keyI → kvs.map (·.1) = acc.map keyI →
    (rows.foldl (fun acc x => putK acc x.1 x.2.2) kvs).map (·.1) = (ns.foldl (fun acc k => if k ∈ acc then acc else acc ++ [k]) acc).map keyI
  | [], [], _, _, _, h => h
  | [], _ :: _, _, _, e, _ => by simp at e
  | _ :: _, [], _, _, e, _ => by simp at e
  | x :: rows, n :: ns, acc, kvs, e, h => by
    rw [List.map_cons, List.map_cons] at e
    obtain ⟨e1, e2⟩ := List.cons.inj e
    rw [List.foldl_cons, List.foldl_cons]
    refine fold_keys rows ns _ _ e2 ?_
    have inj : ∀ a b : Int × Int, keyI a = keyI b → a = b := fun a b q => by
      unfold keyI at q
      simp only [List.cons.injEq, Sum.inl.injEq, and_true] at q
      exact Prod.ext q.1 q.2
    have mem : (kvs.any fun kv => decide (kv.1 = x.1)) = true ↔ n ∈ acc := by
      rw [List.any_eq_true]
      constructor
      · rintro ⟨kv, hm, hk⟩
        have hk := of_decide_eq_true hk
        have : kv.1 ∈ acc.map keyI := by rw [← h]; exact List.mem_map.mpr ⟨kv, hm, rfl⟩
        obtain ⟨a, ha, ea⟩ := List.mem_map.mp this
        rw [← inj a n (by rw [ea, hk, e1])]
        exact ha
      · intro hm
        have : keyI n ∈ kvs.map (·.1) := by rw [h]; exact List.mem_map.mpr ⟨n, hm, rfl⟩
        obtain ⟨kv, hk, ek⟩ := List.mem_map.mp this
        exact ⟨kv, hk, decide_eq_true (by rw [ek, e1])⟩
    unfold putK
    by_cases q : n ∈ acc
    · rw [if_pos q, if_pos (mem.mpr q), List.map_map]
      rw [← h]
      refine List.map_congr_left fun kv _ => ?_
      show (if kv.1 = x.1 then (kv.1, x.2.2) else kv).1 = kv.1
      split <;> rfl
    · rw [if_neg q, if_neg (fun z => q (mem.mp z)), List.map_append, List.map_append, h]
      rw [List.map_cons, List.map_cons]
      rw [show x.1 = keyI n from e1]
      rfl
theorem dwalk_keys {K : PySem.W.Frag} {wo : Option (Addr × Addr)} {F : Hp} {p : Addr} {od : Obj} {kvs : List (List Key × V)} {ns : List (Int × Int)} (h : F p = some (.frz od (.dT kvs))) (hk : kvs.map (·.1) = ns.map keyI) : DWalk K wo (Itkt p od kvs) F (ns.map pairI) where
  go := fun i d F' H hF x e => by
    refine ⟨x.fh _ _ (hF _ _ h), ?_⟩
    have := (List.getElem?_eq_some_iff.mp e).1
    have h2 := congrArg List.length hk
    rw [List.length_map, List.length_map] at h2
    rw [List.length_map] at this
    omega
  yld := fun i d F' H x H' hF ex e y => by
    obtain ⟨e1, k, v, q, hkv, rfl, hq⟩ := y
    subst e1
    rw [List.getElem?_map] at e
    obtain ⟨n, hn, rfl⟩ := Option.map_eq_some_iff.mp e
    have ek : k = keyI n := by
      have h2 := congrArg (·[i]?) hk
      simp only [List.getElem?_map, hkv, hn, Option.map_some, Option.some.injEq] at h2
      exact h2
    subst ek
    have two : ([PyData.int n.1, PyData.int n.2] : List D).length ≤ sizeLine := (show 2 ≤ sizeLine by decide)
    have rs : ∀ F'' : Hp, F'' q = some (.tup ((keyI n).map kV)) → Rep K F'' (.ref q) (pairI n) := fun F'' hf => .tup (SqT.of hf) (.cons (.int _) (.cons (.int _) .nil)) two
    cases e2 : F' q with
    | some o =>
      have := ex.fh _ _ e2
      rw [hq] at this
      cases this
      exact ⟨F', ex, rs F' e2⟩
    | none =>
      refine ⟨upd F' q (.tup ((keyI n).map kV)), ⟨fun a o z => ?_, fun a o z => ?_, fun _ _ z _ => z, fun a o z w => ?_, ex.wk⟩, rs _ upd_same⟩
      · rw [upd_ne (ne_of_none z e2)]; exact z
      · by_cases c : a = q
        · subst c; rw [upd_same] at z; cases z; exact hq
        · rw [upd_ne c] at z; exact ex.fh a o z
      · by_cases c : a = q
        · subst c; exact .inr ⟨_, hq⟩
        · rw [upd_ne c] at z; rw [w] at z; cases z
  stop := fun F' H hF x => by
    refine ⟨x.fh _ _ (hF _ _ h), ?_⟩
    have h2 := congrArg List.length hk
    rw [List.length_map, List.length_map] at h2
    rw [List.length_map]
    omega
theorem firsts_len (ks : List (Int × Int)) : (firsts ks).length ≤ ks.length := by
  have : ∀ (ks acc : List (Int × Int)), (ks.foldl (fun acc k => if k ∈ acc then acc else acc ++ [k]) acc).length ≤ acc.length + ks.length := by
    intro ks
    induction ks with
    | nil => intro acc; exact Nat.le_refl _
    | cons k ks ih =>
      intro acc
      rw [List.foldl_cons, List.length_cons]
      refine Nat.le_trans (ih _) ?_
      split
      · omega
      · rw [List.length_append, List.length_singleton]; omega
  have := this ks []
  rw [List.length_nil, Nat.zero_add] at this
  exact this
/-- the keys of a written dict, walked -/
theorem di_keysW {tg : Expr} {ks : List (Option Expr)} {vs : List Expr} {rs : List DTA} {ts : List (TE × TE)} (hu : X.A.units + 64 < cLine) (h : DKs X c ks vs rs ts) (hall : ks.all (·.isSome) = true := by rfl) (hl : ks.length = vs.length := by rfl) (h0 : ks ≠ [] := by exact List.cons_ne_nil _ _) (h15 : ks.length ≤ 15 := by decide) :
    DI X c tg (.Dict ks vs pos) true (dKeysW rs) := by
  refine ⟨PI.imp (pi_keys (pe_dispT hu h.pps hall hl h0 h15)) fun σ H Q q => ?_⟩
  obtain ⟨F, en, R, r, q, k⟩ := q
  intro p hp
  have fp : F p = none := by
    cases e : F p with
    | none => rfl
    | some u => rw [r.fh _ _ e] at hp; cases hp
  have x0 : Ext c.wo F H F (upd H p (.dT [])) := r.ext.self.poke hp fp (r.ext.wne hp)
  refine h.lift (r.grow x0) q fun F2 H2 rows ns hq x2 em ht hl2 => ?_
  have hw : ¬ isW c.wo p := fun ⟨d, w⟩ => (r.ext.wne hp _ w).1 rfl
  have hp2 : H2 p = some (.dT []) := x2.hh _ _ upd_same hw
  have ll : rows.length ≤ 15 := by omega
  refine ⟨hp2, rows, rfl, ht, ll, fun od => ?_⟩
  refine ⟨p, od, rfl, .inr ⟨mergeT rows, upd_same, ?_⟩⟩
  have fp2 : F2 p = none := by
    cases e : F2 p with
    | none => rfl
    | some u =>
      rcases x2.nw _ _ e fp with z | ⟨_, z⟩ <;> (rw [upd_same] at z; cases z)
  have nw0 : ∀ a u, H a = some u → a ≠ p := fun a u e => ne_of_none e hp
  have x3 : Ext c.wo F H (upd F2 p (.frz od (.dT (mergeT rows)))) (upd H2 p (.frz od (.dT (mergeT rows)))) := by
    have x := x0.trans x2
    refine ⟨fun a o e => ?_, fun a o e => ?_, fun a o e n => by rw [upd_ne (nw0 a o e)]; exact x.hh a o e n, fun a o e n => ?_, fun w e => (x.wk w e).keep (fun o z => ?_) (fun o z => ?_)⟩
    · have := x.ff a o e
      rw [upd_ne (ne_of_none this fp2)]; exact this
    · by_cases z : a = p
      · subst z; rw [upd_same] at e ⊢; exact e
      · rw [upd_ne z] at e ⊢; exact x.fh a o e
    · by_cases z : a = p
      · subst z; exact .inl hp
      · rw [upd_ne z] at e; exact x.nw a o e n
    · rw [upd_ne (r.ext.wne hp w e).1.symm]; exact z
    · rw [upd_ne (r.ext.wne hp w e).2.symm]; exact z
  have hk : (mergeT rows).map (·.1) = (firsts ns).map keyI := fold_keys rows ns [] [] em rfl
  refine k _ hq _ _ _ x3 (dwalk_keys upd_same hk) fun _ => ?_
  have l1 := firsts_len ns
  have l2 := congrArg List.length em
  rw [List.length_map, List.length_map] at l2
  rw [List.length_map]
  have : 15 ≤ sizeLine := by decide
  omega
end
end Lay
namespace Lay
open PySem PySem.Spec L2
open PyProof.Rows hiding St
local macro_rules | `(tactic| walk_at "d1") => `(tactic| try simp only [dSeq, dSkip, dPass, dRet, dRetN, dDrop, dCond, dAsg, gNm, gTp, dOwn, dOwnL, dPar, dAug, dApp, dExt, dFrz, dFor, dLc, dBreak, dCont, dVar, dC, dOp, dT, dIsi, dNeg, dNot, dTNot, dAnd, dOr, dTAnd, dTOr, dIf, dCh, dNil, dCons, dTup, dLst, dIxO, dB, dCall, dCallW, dItems, dRng1, dRng2, dYes, fnE, startE, startW, startS, dLenO, dLenS, dIxS, dSl, dPt, dNo, wipeE, addD_int, addD_str, addD_tup, addD_lst, subD_int, mulD_int, mulD_tup, mulD_lst, fdivD_int, modD_int, powD_int, shlD_int, shrD_int, andD_int, ltD_int, leD_int, gtD_int, geD_int, eqD_ap, neD_ap, isD_ap, isNotD_ap, isNon_none, isNon_int, isNon_bool, isNon_str, isNon_tup, isNon_lst, isInt_none, isInt_int, isInt_bool, isInt_str, isInt_tup, isInt_lst, isBool_none, isBool_int, isBool_bool, isBool_str, isBool_tup, isBool_lst, isStr_none, isStr_int, isStr_bool, isStr_str, isStr_tup, isStr_lst, isTup_none, isTup_int, isTup_bool, isTup_str, isTup_tup, isTup_lst, isLst_lst, Cnd_true, Cnd_false, Cnd_not, Cnd_dec, asB_bool, forall_const, true_implies, false_implies, implies_true, decide_true, decide_false, Classical.not_not, negD_int, notD_bool, onVal_val, onOwn_own, onDic_dic, onScr_scr, onWv_wv, onInt_int, onTup_tup, onLst_lst, onItems_lst, onItems_tup, frz1_own, frz1_val, frz1_un, ixD_lst, ixD_tup, ixL_int, optD_some, optI_some, absD_int, intD_int, intD_bool, lenD_lst, lenD_tup, lenD_str, tupleD_lst, tupleD_tup, listD_lst, listD_tup, min2D_int, max2D_int, sumD_ints, allD_bls, anyD_bls, slD_lst, slD_tup, slD_str, gNl_nil, gCs_cons, par2_two, seq1_lst, seq1_tup, rng1D_int, rng2D_int, gt_z, gt_s, sp_next_int, set_z, set_s, List.map_cons, List.map_nil, List.length_cons, List.length_nil, List.cons_append, List.nil_append, List.replicate, Nat.reduceAdd, Nat.reduceSub, Nat.zero_add, shaped_int, shaped_bool, shaped_none, shaped_listI, shaped_tupI, shaped_nilL, shaped_nilT, eqv_int, eqv_bool, eqv_str, eqv_none, eqv_list_nil, List.isEmpty_nil, List.isEmpty_cons, Bool.true_eq_false, Bool.false_eq_true, decide_eq_true_eq, and_self, true_and, and_true, not_dec, Bool.not_eq_true', decide_eq_false_iff_not, atI_0, atI_1, atI_2, ite_true, ite_false, if_true, if_false, reduceIte, Bool.not_true, Bool.not_false, not_true_eq_false, not_false_eq_true, List.set_cons_zero, List.set_cons_succ, dPar3, dRev, par3_three, sortedD_ints, revD_tup, two_nat, one_nat, three_nat, dCh3, dOwnC, dPutPar, putPar_two, dZip2, zip2D_lst, zip2D_tup, dPut, isBD_bl, isNotBD_bl, dNewO, dPutO, dSortedO, putKD_int, dPar3O, dParO2, par3O_two, parO2_one, minLD_lst, dKeysW, rdPairs_nil, rdPairs_cons, onPair_ii, revD_lst])
local macro_rules | `(tactic| walk_at "dd") => `(tactic| (walk_at "d1"; repeat (with_reducible (refine then_intro ?_); walk_at "d1")))
theorem natAbs_fmod_lt (c : Int) {d : Int} (h : d ≠ 0) : (c.fmod d).natAbs < d.natAbs := by
  rw [Int.fmod_eq_emod]
  have h1 := Int.emod_nonneg c h
  have h2 := Int.emod_lt c h
  split
  · rename_i q
    rcases q with q | q
    · omega
    · have := Int.emod_eq_zero_of_dvd q
      omega
  · rename_i q
    have : ¬ (d ∣ c) := fun z => q (.inr z)
    have h3 : c % d ≠ 0 := fun z => this (Int.dvd_of_emod_eq_zero z)
    omega
theorem bits_mono {n m : Nat} {x : Int} (h : x.natAbs < 2 ^ n) (hm : n ≤ m) : x.natAbs < 2 ^ m := Nat.lt_of_lt_of_le h (Nat.pow_le_pow_right (by decide) hm)
theorem bits_mul {n m : Nat} {x y : Int} (hx : x.natAbs < 2 ^ n) (hy : y.natAbs < 2 ^ m) : (x * y).natAbs < 2 ^ (n + m) := wide_lt hx hy
theorem bits_add {n m : Nat} {x y : Int} (hx : x.natAbs < 2 ^ n) (hy : y.natAbs < 2 ^ m) : (x + y).natAbs < 2 ^ (n + m + 1) := by
  have h1 : 2 ^ n ≤ 2 ^ (n + m) := Nat.pow_le_pow_right (by decide) (by omega)
  have h2 : 2 ^ m ≤ 2 ^ (n + m) := Nat.pow_le_pow_right (by decide) (by omega)
  rw [Nat.pow_succ]
  omega
theorem bits_le {n : Nat} {x y : Int} (hx : x.natAbs ≤ y.natAbs) (hy : y.natAbs < 2 ^ n) : x.natAbs < 2 ^ n := Nat.lt_of_le_of_lt hx hy
theorem mulOk {n m : Nat} {x y : Int} (hx : x.natAbs < 2 ^ n) (hy : y.natAbs < 2 ^ m) (h : n + m ≤ 900000) : CMulW x y :=
  wide_mul (bits_mono hx (Nat.le_succ n)) (bits_mono hy (Nat.le_succ m)) (by omega) (by omega) (by omega)
theorem divOk {n : Nat} {x y : Int} (h0 : y ≠ 0) (hy : y.natAbs < 2 ^ n) (h : n ≤ 8999) : CDivB x y :=
  ⟨h0, Nat.lt_of_lt_of_le (PySem.Flt.log2_lt_of (by omega : 0 < n + 1) (Nat.lt_of_lt_of_le hy (Nat.pow_le_pow_right (by decide) (Nat.le_succ n)))) (by omega)⟩
theorem fdiv_pos (a : Int) {b : Int} (h : 0 < b) : a.fdiv b = a / b := Int.fdiv_eq_ediv_of_nonneg a (by omega)
theorem fmod_pos (a : Int) {b : Int} (h : 0 < b) : a.fmod b = a % b := Int.fmod_eq_emod_of_nonneg a (by omega)
/-- a menu of ints -/
theorem menu_ints {ns : List Int} {R : D → Prop} (h : ∀ n ∈ ns, R (.int n)) : ∀ x ∈ ns.map PyData.int, R x := fun x hx => by
  obtain ⟨n, hn, rfl⟩ := List.mem_map.mp hx
  exact h n hn
theorem menu_bound {ns : List Int} {b : Nat} (hb : ns.all (fun n => decide (n.natAbs ≤ b)) = true) {R : D → Prop} (h : ∀ n : Int, n.natAbs ≤ b → R (.int n)) : ∀ x ∈ ns.map PyData.int, R x :=
  menu_ints fun n hn => h n (of_decide_eq_true (List.all_eq_true.mp hb n hn))
theorem menu_p {ns : List Int} (p : Int → Bool) (hb : ns.all p = true) {R : D → Prop} (h : ∀ n : Int, p n = true → R (.int n)) : ∀ x ∈ ns.map PyData.int, R x :=
  menu_ints fun n hn => h n (List.all_eq_true.mp hb n hn)
theorem menu_range {ns : List Int} (a b : Int) (hb : ns.all (fun n => decide (a ≤ n ∧ n ≤ b)) = true) {R : D → Prop} (h : ∀ n : Int, a ≤ n → n ≤ b → R (.int n)) : ∀ x ∈ ns.map PyData.int, R x :=
  menu_p _ hb fun n hn => h n (of_decide_eq_true hn).1 (of_decide_eq_true hn).2
theorem mul_le_nat {x y : Int} {a b : Nat} (hx : x.natAbs ≤ a) (hy : y.natAbs ≤ b) : (x * y).natAbs ≤ a * b := by rw [Int.natAbs_mul]; exact Nat.mul_le_mul hx hy
theorem nat_fmod (x : Nat) (k : Nat) (hk : 0 < k) : (x : Int).fmod (k : Int) = ((x % k : Nat) : Int) := by rw [fmod_pos _ (by omega), Int.natCast_emod]
theorem snoc_ind {α : Type} {P : List α → Prop} (h0 : P []) (h1 : ∀ xs x, P xs → P (xs ++ [x])) : ∀ xs, P xs := by
  have key : ∀ ys : List α, P ys.reverse := fun ys => by
    induction ys with
    | nil => exact h0
    | cons y ys ih => rw [List.reverse_cons]; exact h1 _ _ ih
  exact fun xs => by have := key xs.reverse; rwa [List.reverse_reverse] at this
theorem take_snoc {α : Type} {xs : List α} {i : Nat} {x : α} (h : xs[i]? = some x) : xs.take (i + 1) = xs.take i ++ [x] := by rw [List.take_succ, h]; rfl
local macro_rules | `(tactic| walk_at "d1") => `(tactic| try simp only [dSeq, dSkip, dPass, dRet, dRetN, dDrop, dCond, dAsg, gNm, gTp, dOwn, dOwnL, dPar, dAug, dApp, dExt, dFrz, dFor, dLc, dBreak, dCont, dVar, dC, dOp, dT, dIsi, dNeg, dNot, dTNot, dAnd, dOr, dTAnd, dTOr, dIf, dCh, dNil, dCons, dTup, dLst, dIxO, dB, dCall, dCallW, dItems, dRng1, dRng2, dYes, fnE, startE, startW, startS, dLenO, dLenS, dIxS, dSl, dPt, dNo, wipeE, addD_int, addD_str, addD_tup, addD_lst, subD_int, mulD_int, mulD_tup, mulD_lst, fdivD_int, modD_int, powD_int, shlD_int, shrD_int, andD_int, ltD_int, leD_int, gtD_int, geD_int, eqD_ap, neD_ap, isD_ap, isNotD_ap, isNon_none, isNon_int, isNon_bool, isNon_str, isNon_tup, isNon_lst, isInt_none, isInt_int, isInt_bool, isInt_str, isInt_tup, isInt_lst, isBool_none, isBool_int, isBool_bool, isBool_str, isBool_tup, isBool_lst, isStr_none, isStr_int, isStr_bool, isStr_str, isStr_tup, isStr_lst, isTup_none, isTup_int, isTup_bool, isTup_str, isTup_tup, isTup_lst, isLst_lst, Cnd_true, Cnd_false, Cnd_not, Cnd_dec, asB_bool, forall_const, true_implies, false_implies, implies_true, decide_true, decide_false, Classical.not_not, negD_int, notD_bool, onVal_val, onOwn_own, onDic_dic, onScr_scr, onWv_wv, onInt_int, onTup_tup, onLst_lst, onItems_lst, onItems_tup, frz1_own, frz1_val, frz1_un, ixD_lst, ixD_tup, ixL_int, optD_some, optI_some, absD_int, intD_int, intD_bool, lenD_lst, lenD_tup, lenD_str, tupleD_lst, tupleD_tup, listD_lst, listD_tup, min2D_int, max2D_int, sumD_ints, allD_bls, anyD_bls, slD_lst, slD_tup, slD_str, gNl_nil, gCs_cons, par2_two, seq1_lst, seq1_tup, rng1D_int, rng2D_int, gt_z, gt_s, sp_next_int, set_z, set_s, List.map_cons, List.map_nil, List.length_cons, List.length_nil, List.cons_append, List.nil_append, List.replicate, Nat.reduceAdd, Nat.reduceSub, Nat.zero_add, shaped_int, shaped_bool, shaped_none, shaped_listI, shaped_tupI, shaped_nilL, shaped_nilT, eqv_int, eqv_bool, eqv_str, eqv_none, eqv_list_nil, List.isEmpty_nil, List.isEmpty_cons, Bool.true_eq_false, Bool.false_eq_true, decide_eq_true_eq, and_self, true_and, and_true, not_dec, Bool.not_eq_true', decide_eq_false_iff_not, atI_0, atI_1, atI_2, ite_true, ite_false, if_true, if_false, reduceIte, Bool.not_true, Bool.not_false, not_true_eq_false, not_false_eq_true, List.set_cons_zero, List.set_cons_succ, dPar3, dRev, par3_three, sortedD_ints, revD_tup, two_nat, one_nat, three_nat, dCh3, dOwnC, dPutPar, putPar_two, dZip2, zip2D_lst, zip2D_tup, dPut, isBD_bl, isNotBD_bl, dNewO, dPutO, dSortedO, putKD_int, dPar3O, dParO2, par3O_two, parO2_one, minLD_lst, dKeysW, rdPairs_nil, rdPairs_cons, onPair_ii, revD_lst])
local macro_rules | `(tactic| walk_at "dd") => `(tactic| (walk_at "d1"; repeat (with_reducible (refine then_intro ?_); walk_at "d1")))
def rd_law_draws_b1 : DTS :=
  (dCond (dT (dOp gtD (dVar 6) (dC (.int 0)))) (dSeq (dApp 2 (dOp modD (dB intD (dCons (dVar 6) dNil)) (dC (.int 997)))) (dAsg (dOp fdivD (dVar 6) (dC (.int 997))) (gNm 6))) dSkip)
def rd_law_draws_b2 : DTS :=
  (dSeq (dAsg (dB absD (dCons (dB intD (dCons (dIxS 0 (dVar 4)) dNil)) dNil)) (gNm 5)) (dSeq (dAsg (dOp modD (dB intD (dCons (dOp addD (dOp addD (dOp mulD (dVar 3) (dC (.int 48271))) (dOp modD (dVar 5) (dC (.int 1000003)))) (dVar 4)) dNil)) (dC (.int 65537))) (gNm 3)) (dSeq (dAsg (dC (.int 0)) (gNm 6)) (dSeq (dCond (dT (dOp geD (dVar 5) (dOp powD (dC (.int 10)) (dC (.int 18))))) (dAsg (dVar 5) (gNm 6)) (dSeq (dApp 2 (dOp modD (dB intD (dCons (dVar 5) dNil)) (dC (.int 997)))) (dApp 2 (dOp modD (dOp modD (dB intD (dCons (dOp addD (dOp mulD (dVar 3) (dC (.int 69621))) (dC (.int 5))) dNil)) (dC (.int 65521))) (dC (.int 997)))))) (dFor (dRng1 (dCons (dC (.int 60)) dNil)) (gNm 7) rd_law_draws_b1)))))
def rd_law_draws_b3 : DTS :=
  (dSeq (dAsg (dOp modD (dB intD (dCons (dOp addD (dOp addD (dOp mulD (dVar 3) (dC (.int 16807))) (dVar 4)) (dC (.int 1))) dNil)) (dC (.int 65537))) (gNm 3)) (dApp 2 (dOp modD (dB intD (dCons (dVar 3) dNil)) (dC (.int 997)))))
def rd_law_draws : DTS :=
  (dSeq (dOwn 2 dNil) (dSeq (dAsg (dC (.int 7)) (gNm 3)) (dSeq (dFor (dRng1 (dCons (dLenS 0) dNil)) (gNm 4) rd_law_draws_b2) (dSeq (dFor (dRng1 (dCons (dVar 1) dNil)) (gNm 4) rd_law_draws_b3) (dFrz 2 (dRet (dSl (dVar 2) dNo (dPt (dVar 1)))))))))
def DrawL (ms : List Int) : Prop := ∀ r ∈ ms, 0 ≤ r ∧ r < 997
theorem DrawL.app {ms : List Int} {x : Int} (h : DrawL ms) (h0 : 0 ≤ x) (h1 : x < 997) : DrawL (ms ++ [x]) := fun r hr => by
  rcases List.mem_append.mp hr with hr | hr
  · exact h r hr
  · rw [List.mem_singleton] at hr; subst hr; exact ⟨h0, h1⟩
theorem ok_law_draws : ∀ ns ds R, ns.length ≤ 63 → sp_draws ns ds R → rd_law_draws (fnE R) (startS 8 ns ds) := by
  intro ns ds R h63 h
  unfold sp_draws at h
  split at h
  · rename_i many
    obtain ⟨⟨m0, m1⟩, h⟩ := h
    unfold rd_law_draws
    walk_at "dd"
    refine ⟨by omega, ?_⟩
    refine for_by (fun (s : List Int × Int × Sl × Sl × Sl × Sl) => [.scr ns, .val (.int many), .own (s.1.map .int), .val (.int s.2.1), s.2.2.1, s.2.2.2.1, s.2.2.2.2.1, s.2.2.2.2.2])
      (fun i s => DrawL s.1 ∧ s.1.length ≤ i * 70 ∧ 0 ≤ s.2.1 ∧ s.2.1 < 65537) ([], 7, .un, .un, .un, .un) rfl ⟨(fun r hr => nomatch hr), Nat.zero_le _, by decide, by decide⟩ ?_ ?_
    · rintro i d hd ⟨ms, mixed, u1, u2, u3, u4⟩ ⟨hms, hlen, hm0, hm1⟩ bk
      simp only at hms hlen hm0 hm1
      obtain ⟨hi, rfl⟩ := rangeD_get hd
      have hi' : i < ns.length := by omega
      have en : (0 : Int) + (i : Int) = (i : Int) := by omega
      have ea : atI ns (i : Int) = some ns[i] := atI_nat (List.getElem?_eq_getElem hi')
      unfold rd_law_draws_b2
      walk_at "dd"
      rw [en]
      simp only [ea]
      have hsz : (sizeLine : Nat) = 16777216 := sizeLine_eq
      refine ⟨mulOk (n := 20) (m := 20) (by omega) (by decide) (by decide), by decide, by decide, ⟨by decide, by decide, by decide⟩, ?_⟩
      rw [fmod_pos _ (by decide : (0 : Int) < 65537), fmod_pos _ (by decide : (0 : Int) < 1000003)]
      have q1 := Int.emod_nonneg (mixed * 48271 + (ns[i].natAbs : Int) % 1000003 + (i : Int)) (by decide : (65537 : Int) ≠ 0)
      have q2 := Int.emod_lt_of_pos (mixed * 48271 + (ns[i].natAbs : Int) % 1000003 + (i : Int)) (by decide : (0 : Int) < 65537)
      generalize (mixed * 48271 + (ns[i].natAbs : Int) % 1000003 + (i : Int)) % 65537 = mx at q1 q2
      walk_at "dd"
      -- the inner loop
      have inner : ∀ (ms' : List Int) (rest : Int) (u : Sl), DrawL ms' → ms'.length ≤ i * 70 + 2 →
          ForW (gNm 7) rd_law_draws_b1 (rangeD 0 60) { nx := fun en' => ∃ a', en' = (fun (s : List Int × Int × Sl × Sl × Sl × Sl) => [.scr ns, .val (.int many), .own (s.1.map .int), .val (.int s.2.1), s.2.2.1, s.2.2.2.1, s.2.2.2.2.1, s.2.2.2.2.2]) a' ∧ DrawL a'.1 ∧ a'.1.length ≤ (i + 1) * 70 ∧ 0 ≤ a'.2.1 ∧ a'.2.1 < 65537, ct := fun en' => ∃ a', en' = (fun (s : List Int × Int × Sl × Sl × Sl × Sl) => [.scr ns, .val (.int many), .own (s.1.map .int), .val (.int s.2.1), s.2.2.1, s.2.2.2.1, s.2.2.2.2.1, s.2.2.2.2.2]) a' ∧ DrawL a'.1 ∧ a'.1.length ≤ (i + 1) * 70 ∧ 0 ≤ a'.2.1 ∧ a'.2.1 < 65537, bk := bk, rt := R }
            [.scr ns, .val (.int many), .own (ms'.map .int), .val (.int mx), .val (.int (i : Int)), .val (.int (ns[i].natAbs : Int)), .val (.int rest), u] := by
        intro ms' rest u hms' hl'
        refine for_by (fun (s : List Int × Int × Sl) => [.scr ns, .val (.int many), .own (s.1.map .int), .val (.int mx), .val (.int (i : Int)), .val (.int (ns[i].natAbs : Int)), .val (.int s.2.1), s.2.2])
          (fun j s => DrawL s.1 ∧ s.1.length ≤ i * 70 + 2 + j) (ms', rest, u) rfl ⟨hms', by omega⟩ ?_ ?_
        · rintro j d hd ⟨ms2, r2, u2⟩ ⟨hm2, hl2⟩ bk'
          simp only at hm2 hl2
          obtain ⟨hj, rfl⟩ := rangeD_get hd
          unfold rd_law_draws_b1
          walk_at "dd"
          refine ⟨fun hr => ?_, fun hr => ?_⟩
          · rw [fmod_pos _ (by decide : (0 : Int) < 997)]
            have q3 := Int.emod_nonneg r2 (by decide : (997 : Int) ≠ 0)
            have q4 := Int.emod_lt_of_pos r2 (by decide : (0 : Int) < 997)
            refine ⟨by decide, by rw [List.length_map]; omega, divOk (n := 10) (by decide) (by decide) (by decide), ?_⟩
            exact ⟨(ms2 ++ [r2 % 997], r2.fdiv 997, _), by rw [List.map_append]; rfl, hm2.app q3 q4, by simp only [List.length_append, List.length_singleton]; omega⟩
          · exact ⟨(ms2, r2, _), rfl, hm2, by simp only; omega⟩
        · rintro ⟨ms2, r2, u2⟩ ⟨hm2, hl2⟩
          simp only [rangeD_length] at hm2 hl2
          exact ⟨(ms2, mx, .val (.int (i : Int)), .val (.int (ns[i].natAbs : Int)), .val (.int r2), u2), rfl, hm2, by simp only; omega, q1, q2⟩
      refine ⟨fun hc => ?_, fun hc => ?_⟩
      all_goals walk_at "dd"
      · exact ⟨by decide, inner ms _ _ hms (by omega)⟩
      · refine ⟨by decide, by rw [List.length_map]; omega, mulOk (n := 20) (m := 20) (by omega) (by decide) (by decide), by decide, by decide, by rw [List.length_append, List.length_map, List.length_singleton]; omega, by decide, ?_⟩
        rw [fmod_pos _ (by decide : (0 : Int) < 997), fmod_pos _ (by decide : (0 : Int) < 997), fmod_pos _ (by decide : (0 : Int) < 65521)]
        have e : (ms.map PyData.int ++ [.int ((ns[i].natAbs : Int) % 997)]) ++ [.int ((mx * 69621 + 5) % 65521 % 997)] = (ms ++ [(ns[i].natAbs : Int) % 997] ++ [(mx * 69621 + 5) % 65521 % 997]).map PyData.int := by simp
        rw [e]
        refine inner _ _ _ ((hms.app (Int.emod_nonneg _ (by decide)) (Int.emod_lt_of_pos _ (by decide))).app (Int.emod_nonneg _ (by decide)) (Int.emod_lt_of_pos _ (by decide))) ?_
        simp only [List.length_append, List.length_singleton]
        omega
    · rintro ⟨ms, mixed, u1, u2, u3, u4⟩ ⟨hms, hlen, hm0, hm1⟩
      simp only [rangeD_length] at hms hlen hm0 hm1
      walk_at "dd"
      refine ⟨by omega, ?_⟩
      refine for_by (fun (s : List Int × Int × Sl) => [.scr ns, .val (.int many), .own (s.1.map .int), .val (.int s.2.1), s.2.2, u2, u3, u4])
        (fun i s => DrawL s.1 ∧ s.1.length ≤ 5000 + i ∧ 0 ≤ s.2.1 ∧ s.2.1 < 65537) (ms, mixed, u1) rfl ⟨hms, by simp only; omega, hm0, hm1⟩ ?_ ?_
      · rintro i d hd ⟨ms2, m2, u⟩ ⟨hm2, hl2, h1, h2⟩ bk
        simp only at hm2 hl2 h1 h2
        obtain ⟨hi, rfl⟩ := rangeD_get hd
        unfold rd_law_draws_b3
        walk_at "dd"
        have hsz : (sizeLine : Nat) = 16777216 := sizeLine_eq
        refine ⟨mulOk (n := 20) (m := 20) (by omega) (by decide) (by decide), by decide, by decide, by rw [List.length_map]; omega, ?_⟩
        rw [fmod_pos _ (by decide : (0 : Int) < 997), fmod_pos _ (by decide : (0 : Int) < 65537)]
        exact ⟨(ms2 ++ [(m2 * 16807 + (0 + (i : Int)) + 1) % 65537 % 997], (m2 * 16807 + (0 + (i : Int)) + 1) % 65537, _), by rw [List.map_append]; rfl, hm2.app (Int.emod_nonneg _ (by decide)) (Int.emod_lt_of_pos _ (by decide)),
          by simp only [List.length_append, List.length_singleton]; omega, Int.emod_nonneg _ (by decide), Int.emod_lt_of_pos _ (by decide)⟩
      · rintro ⟨ms2, m2, u⟩ ⟨hm2, hl2, h1, h2⟩
        simp only at hm2
        walk_at "dd"
        have e : cutL (ms2.map PyData.int) none (some many) = (cutL ms2 none (some many)).map .int := by
          unfold cutL
          rw [List.length_map, List.map_take, List.map_drop]
        rw [e]
        refine h _ fun r hr => hm2 r ?_
        unfold cutL at hr
        exact List.mem_of_mem_drop (List.mem_of_mem_take hr)
  · exact h.elim
local macro_rules | `(tactic| walk_at "d1") => `(tactic| try simp only [dSeq, dSkip, dPass, dRet, dRetN, dDrop, dCond, dAsg, gNm, gTp, dOwn, dOwnL, dPar, dAug, dApp, dExt, dFrz, dFor, dLc, dBreak, dCont, dVar, dC, dOp, dT, dIsi, dNeg, dNot, dTNot, dAnd, dOr, dTAnd, dTOr, dIf, dCh, dNil, dCons, dTup, dLst, dIxO, dB, dCall, dCallW, dItems, dRng1, dRng2, dYes, fnE, startE, startW, startS, dLenO, dLenS, dIxS, dSl, dPt, dNo, wipeE, addD_int, addD_str, addD_tup, addD_lst, subD_int, mulD_int, mulD_tup, mulD_lst, fdivD_int, modD_int, powD_int, shlD_int, shrD_int, andD_int, ltD_int, leD_int, gtD_int, geD_int, eqD_ap, neD_ap, isD_ap, isNotD_ap, isNon_none, isNon_int, isNon_bool, isNon_str, isNon_tup, isNon_lst, isInt_none, isInt_int, isInt_bool, isInt_str, isInt_tup, isInt_lst, isBool_none, isBool_int, isBool_bool, isBool_str, isBool_tup, isBool_lst, isStr_none, isStr_int, isStr_bool, isStr_str, isStr_tup, isStr_lst, isTup_none, isTup_int, isTup_bool, isTup_str, isTup_tup, isTup_lst, isLst_lst, Cnd_true, Cnd_false, Cnd_not, Cnd_dec, asB_bool, forall_const, true_implies, false_implies, implies_true, decide_true, decide_false, Classical.not_not, negD_int, notD_bool, onVal_val, onOwn_own, onDic_dic, onScr_scr, onWv_wv, onInt_int, onTup_tup, onLst_lst, onItems_lst, onItems_tup, frz1_own, frz1_val, frz1_un, ixD_lst, ixD_tup, ixL_int, optD_some, optI_some, absD_int, intD_int, intD_bool, lenD_lst, lenD_tup, lenD_str, tupleD_lst, tupleD_tup, listD_lst, listD_tup, min2D_int, max2D_int, sumD_ints, allD_bls, anyD_bls, slD_lst, slD_tup, slD_str, gNl_nil, gCs_cons, par2_two, seq1_lst, seq1_tup, rng1D_int, rng2D_int, gt_z, gt_s, sp_next_int, set_z, set_s, List.map_cons, List.map_nil, List.length_cons, List.length_nil, List.cons_append, List.nil_append, List.replicate, Nat.reduceAdd, Nat.reduceSub, Nat.zero_add, shaped_int, shaped_bool, shaped_none, shaped_listI, shaped_tupI, shaped_nilL, shaped_nilT, eqv_int, eqv_bool, eqv_str, eqv_none, eqv_list_nil, List.isEmpty_nil, List.isEmpty_cons, Bool.true_eq_false, Bool.false_eq_true, decide_eq_true_eq, and_self, true_and, and_true, not_dec, Bool.not_eq_true', decide_eq_false_iff_not, atI_0, atI_1, atI_2, ite_true, ite_false, if_true, if_false, reduceIte, Bool.not_true, Bool.not_false, not_true_eq_false, not_false_eq_true, List.set_cons_zero, List.set_cons_succ, dPar3, dRev, par3_three, sortedD_ints, revD_tup, two_nat, one_nat, three_nat, dCh3, dOwnC, dPutPar, putPar_two, dZip2, zip2D_lst, zip2D_tup, dPut, isBD_bl, isNotBD_bl, dNewO, dPutO, dSortedO, putKD_int, dPar3O, dParO2, par3O_two, parO2_one, minLD_lst, dKeysW, rdPairs_nil, rdPairs_cons, onPair_ii, revD_lst])
local macro_rules | `(tactic| walk_at "dd") => `(tactic| (walk_at "d1"; repeat (with_reducible (refine then_intro ?_); walk_at "d1")))
def rd_law_pick : DTS :=
  (dRet (dOp ixD (dVar 1) (dCallW 0 sp_next (dCons (dB lenD (dCons (dVar 1) dNil)) dNil))))
def sp_law_pick : Lay.Spec := fun ds R => match ds with
  | [.list xs] => xs ≠ [] ∧ ∀ x ∈ xs, R x
  | [.tuple xs] => xs ≠ [] ∧ ∀ x ∈ xs, R x
  | _ => False
theorem pick_at {xs : List D} {R : D → Prop} (h : ∀ x ∈ xs, R x) {r : Int} (h0 : 0 ≤ r) (h1 : r < xs.length) : optD (atI xs r) R := by
  obtain ⟨x, e1, e2⟩ := atI_at h0 h1
  rw [e2]
  exact h x (List.mem_of_getElem? e1)
theorem ok_law_pick : ∀ ds R, sp_law_pick ds R → rd_law_pick (fnE R) (startW 2 ds) := by
  intro ds R h
  unfold sp_law_pick at h
  split at h
  · rename_i xs
    obtain ⟨hn, h⟩ := h
    have hl := List.length_pos_iff.mpr hn
    unfold rd_law_pick
    simp only [dRet, dOp, dVar, dCallW, dCons, dNil, dB, lenD, sp_next, startW, gt, fnE, List.map_cons, List.map_nil, List.length_cons, List.cons_append, List.nil_append, ixD]
    refine ⟨by omega, fun r h0 h1 _ => ?_⟩
    show ixL xs (.int r) R
    exact pick_at h h0 (by omega)
  · rename_i xs
    obtain ⟨hn, h⟩ := h
    have hl := List.length_pos_iff.mpr hn
    unfold rd_law_pick
    simp only [dRet, dOp, dVar, dCallW, dCons, dNil, dB, lenD, sp_next, startW, gt, fnE, List.map_cons, List.map_nil, List.length_cons, List.cons_append, List.nil_append, ixD]
    refine ⟨by omega, fun r h0 h1 _ => ?_⟩
    show ixL xs (.int r) R
    exact pick_at h h0 (by omega)
  · exact h.elim
local macro_rules | `(tactic| walk_at "d1") => `(tactic| try simp only [dSeq, dSkip, dPass, dRet, dRetN, dDrop, dCond, dAsg, gNm, gTp, dOwn, dOwnL, dPar, dAug, dApp, dExt, dFrz, dFor, dLc, dBreak, dCont, dVar, dC, dOp, dT, dIsi, dNeg, dNot, dTNot, dAnd, dOr, dTAnd, dTOr, dIf, dCh, dNil, dCons, dTup, dLst, dIxO, dB, dCall, dCallW, dItems, dRng1, dRng2, dYes, fnE, startE, startW, startS, dLenO, dLenS, dIxS, dSl, dPt, dNo, wipeE, addD_int, addD_str, addD_tup, addD_lst, subD_int, mulD_int, mulD_tup, mulD_lst, fdivD_int, modD_int, powD_int, shlD_int, shrD_int, andD_int, ltD_int, leD_int, gtD_int, geD_int, eqD_ap, neD_ap, isD_ap, isNotD_ap, isNon_none, isNon_int, isNon_bool, isNon_str, isNon_tup, isNon_lst, isInt_none, isInt_int, isInt_bool, isInt_str, isInt_tup, isInt_lst, isBool_none, isBool_int, isBool_bool, isBool_str, isBool_tup, isBool_lst, isStr_none, isStr_int, isStr_bool, isStr_str, isStr_tup, isStr_lst, isTup_none, isTup_int, isTup_bool, isTup_str, isTup_tup, isTup_lst, isLst_lst, Cnd_true, Cnd_false, Cnd_not, Cnd_dec, asB_bool, forall_const, true_implies, false_implies, implies_true, decide_true, decide_false, Classical.not_not, negD_int, notD_bool, onVal_val, onOwn_own, onDic_dic, onScr_scr, onWv_wv, onInt_int, onTup_tup, onLst_lst, onItems_lst, onItems_tup, frz1_own, frz1_val, frz1_un, ixD_lst, ixD_tup, ixL_int, optD_some, optI_some, absD_int, intD_int, intD_bool, lenD_lst, lenD_tup, lenD_str, tupleD_lst, tupleD_tup, listD_lst, listD_tup, min2D_int, max2D_int, sumD_ints, allD_bls, anyD_bls, slD_lst, slD_tup, slD_str, gNl_nil, gCs_cons, par2_two, seq1_lst, seq1_tup, rng1D_int, rng2D_int, gt_z, gt_s, sp_next_int, set_z, set_s, List.map_cons, List.map_nil, List.length_cons, List.length_nil, List.cons_append, List.nil_append, List.replicate, Nat.reduceAdd, Nat.reduceSub, Nat.zero_add, shaped_int, shaped_bool, shaped_none, shaped_listI, shaped_tupI, shaped_nilL, shaped_nilT, eqv_int, eqv_bool, eqv_str, eqv_none, eqv_list_nil, List.isEmpty_nil, List.isEmpty_cons, Bool.true_eq_false, Bool.false_eq_true, decide_eq_true_eq, and_self, true_and, and_true, not_dec, Bool.not_eq_true', decide_eq_false_iff_not, atI_0, atI_1, atI_2, ite_true, ite_false, if_true, if_false, reduceIte, Bool.not_true, Bool.not_false, not_true_eq_false, not_false_eq_true, List.set_cons_zero, List.set_cons_succ, dPar3, dRev, par3_three, sortedD_ints, revD_tup, two_nat, one_nat, three_nat, dCh3, dOwnC, dPutPar, putPar_two, dZip2, zip2D_lst, zip2D_tup, dPut, isBD_bl, isNotBD_bl, dNewO, dPutO, dSortedO, putKD_int, dPar3O, dParO2, par3O_two, parO2_one, minLD_lst, dKeysW, rdPairs_nil, rdPairs_cons, onPair_ii, revD_lst])
local macro_rules | `(tactic| walk_at "dd") => `(tactic| (walk_at "d1"; repeat (with_reducible (refine then_intro ?_); walk_at "d1")))
def rd_law_d : DTS :=
  (dRet (dCallW 0 sp_law_pick (dCons (dLst (dCons (dNeg (dC (.int 3))) (dCons (dNeg (dC (.int 4))) (dCons (dNeg (dC (.int 7))) (dCons (dNeg (dC (.int 8))) (dCons (dNeg (dC (.int 11))) (dCons (dNeg (dC (.int 12))) (dCons (dNeg (dC (.int 15))) (dCons (dNeg (dC (.int 16))) (dCons (dNeg (dC (.int 20))) (dCons (dNeg (dC (.int 23))) (dCons (dNeg (dC (.int 24))) (dCons (dNeg (dC (.int 27))) (dCons (dNeg (dC (.int 28))) (dCons (dNeg (dC (.int 32))) (dCons (dNeg (dC (.int 35))) (dCons (dNeg (dC (.int 36))) (dCons (dNeg (dC (.int 39))) (dCons (dNeg (dC (.int 40))) (dCons (dNeg (dC (.int 47))) (dCons (dNeg (dC (.int 48))) (dCons (dNeg (dC (.int 52))) (dCons (dNeg (dC (.int 55))) (dCons (dNeg (dC (.int 56))) (dCons (dNeg (dC (.int 60))) (dCons (dNeg (dC (.int 63))) (dCons (dNeg (dC (.int 64))) (dCons (dNeg (dC (.int 71))) (dCons (dNeg (dC (.int 75))) (dCons (dNeg (dC (.int 80))) (dCons (dNeg (dC (.int 84))) (dCons (dNeg (dC (.int 87))) (dCons (dNeg (dC (.int 95))) (dCons (dNeg (dC (.int 96))) (dCons (dNeg (dC (.int 99))) (dCons (dNeg (dC (.int 104))) (dCons (dNeg (dC (.int 111))) (dCons (dNeg (dC (.int 120))) (dCons (dNeg (dC (.int 128))) (dCons (dNeg (dC (.int 132))) (dCons (dNeg (dC (.int 159))) (dCons (dNeg (dC (.int 168))) (dCons (dNeg (dC (.int 192))) (dCons (dNeg (dC (.int 199))) (dCons (dNeg (dC (.int 231))) (dCons (dNeg (dC (.int 260))) dNil)))))))))))))))))))))))))))))))))))))))))))))) dNil)))
def dS : List Int := [-3, -4, -7, -8, -11, -12, -15, -16, -20, -23, -24, -27, -28, -32, -35, -36, -39, -40, -47, -48, -52, -55, -56, -60, -63, -64, -71, -75, -80, -84, -87, -95, -96, -99, -104, -111, -120, -128, -132, -159, -168, -192, -199, -231, -260]
def sp_law_d : Lay.Spec := fun ds R => match ds with
  | [] => ∀ d ∈ dS, R (.int d)
  | _ => False
theorem spx_law_d {R : D → Prop} : sp_law_d [] R = ∀ d ∈ dS, R (.int d) := rfl
theorem ok_law_d : ∀ ds R, sp_law_d ds R → rd_law_d (fnE R) (startW 1 ds) := by
  intro ds R h
  unfold sp_law_d at h
  split at h
  · unfold rd_law_d
    walk_at "dd"
    refine ⟨List.cons_ne_nil _ _, ?_⟩
    have hk : ∀ x ∈ dS.map PyData.int, R x := fun x hx => by
      obtain ⟨d, hd, rfl⟩ := List.mem_map.mp hx
      exact h d hd
    exact hk
  · exact h.elim
local macro_rules | `(tactic| walk_at "d1") => `(tactic| try simp only [dSeq, dSkip, dPass, dRet, dRetN, dDrop, dCond, dAsg, gNm, gTp, dOwn, dOwnL, dPar, dAug, dApp, dExt, dFrz, dFor, dLc, dBreak, dCont, dVar, dC, dOp, dT, dIsi, dNeg, dNot, dTNot, dAnd, dOr, dTAnd, dTOr, dIf, dCh, dNil, dCons, dTup, dLst, dIxO, dB, dCall, dCallW, dItems, dRng1, dRng2, dYes, fnE, startE, startW, startS, dLenO, dLenS, dIxS, dSl, dPt, dNo, wipeE, addD_int, addD_str, addD_tup, addD_lst, subD_int, mulD_int, mulD_tup, mulD_lst, fdivD_int, modD_int, powD_int, shlD_int, shrD_int, andD_int, ltD_int, leD_int, gtD_int, geD_int, eqD_ap, neD_ap, isD_ap, isNotD_ap, isNon_none, isNon_int, isNon_bool, isNon_str, isNon_tup, isNon_lst, isInt_none, isInt_int, isInt_bool, isInt_str, isInt_tup, isInt_lst, isBool_none, isBool_int, isBool_bool, isBool_str, isBool_tup, isBool_lst, isStr_none, isStr_int, isStr_bool, isStr_str, isStr_tup, isStr_lst, isTup_none, isTup_int, isTup_bool, isTup_str, isTup_tup, isTup_lst, isLst_lst, Cnd_true, Cnd_false, Cnd_not, Cnd_dec, asB_bool, forall_const, true_implies, false_implies, implies_true, decide_true, decide_false, Classical.not_not, negD_int, notD_bool, onVal_val, onOwn_own, onDic_dic, onScr_scr, onWv_wv, onInt_int, onTup_tup, onLst_lst, onItems_lst, onItems_tup, frz1_own, frz1_val, frz1_un, ixD_lst, ixD_tup, ixL_int, optD_some, optI_some, absD_int, intD_int, intD_bool, lenD_lst, lenD_tup, lenD_str, tupleD_lst, tupleD_tup, listD_lst, listD_tup, min2D_int, max2D_int, sumD_ints, allD_bls, anyD_bls, slD_lst, slD_tup, slD_str, gNl_nil, gCs_cons, par2_two, seq1_lst, seq1_tup, rng1D_int, rng2D_int, gt_z, gt_s, sp_next_int, set_z, set_s, List.map_cons, List.map_nil, List.length_cons, List.length_nil, List.cons_append, List.nil_append, List.replicate, Nat.reduceAdd, Nat.reduceSub, Nat.zero_add, shaped_int, shaped_bool, shaped_none, shaped_listI, shaped_tupI, shaped_nilL, shaped_nilT, eqv_int, eqv_bool, eqv_str, eqv_none, eqv_list_nil, List.isEmpty_nil, List.isEmpty_cons, Bool.true_eq_false, Bool.false_eq_true, decide_eq_true_eq, and_self, true_and, and_true, not_dec, Bool.not_eq_true', decide_eq_false_iff_not, atI_0, atI_1, atI_2, ite_true, ite_false, if_true, if_false, reduceIte, Bool.not_true, Bool.not_false, not_true_eq_false, not_false_eq_true, List.set_cons_zero, List.set_cons_succ, dPar3, dRev, par3_three, sortedD_ints, revD_tup, two_nat, one_nat, three_nat, dCh3, dOwnC, dPutPar, putPar_two, dZip2, zip2D_lst, zip2D_tup, dPut, isBD_bl, isNotBD_bl, dNewO, dPutO, dSortedO, putKD_int, dPar3O, dParO2, par3O_two, parO2_one, minLD_lst, dKeysW, rdPairs_nil, rdPairs_cons, onPair_ii, revD_lst])
local macro_rules | `(tactic| walk_at "dd") => `(tactic| (walk_at "d1"; repeat (with_reducible (refine then_intro ?_); walk_at "d1")))
def rd_law_common_v1_b1 : DTS :=
  (dPar 0 1 (dCons (dVar 1) (dCons (dOp modD (dB intD (dCons (dVar 0) dNil)) (dVar 1)) dNil)))
def rd_law_common_v1 : DTS :=
  (dSeq (dPar 0 1 (dCons (dB absD (dCons (dVar 0) dNil)) (dCons (dB absD (dCons (dVar 1) dNil)) dNil))) (dSeq (dWhile (dT (dOp neD (dVar 1) (dC (.int 0)))) rd_law_common_v1_b1) (dRet (dVar 0))))
def sp_law_common_v1 : Lay.Spec := fun ds R => match ds with | [.int a, .int b] => R (.int (Int.gcd a b : Nat)) | _ => False
theorem ok_law_common_v1 : ∀ ds R, sp_law_common_v1 ds R → rd_law_common_v1 (fnE R) (startE 2 ds) := by
  intro ds R h
  unfold sp_law_common_v1 at h
  split at h
  · rename_i a b
    unfold rd_law_common_v1
    walk_at "dd"
    refine while_by (fun (s : Nat × Nat) => [.val (.int s.1), .val (.int s.2)]) (fun s => Nat.gcd s.1 s.2 = Int.gcd a b) (fun s => s.2) (a.natAbs, b.natAbs) rfl rfl ?_
    rintro ⟨x, y⟩ hg bk
    walk_at "dd"
    refine And.symm ⟨fun hy => ?_, fun hy => ?_⟩
    · have hy' : 0 < y := by omega
      unfold rd_law_common_v1_b1
      walk_at "dd"
      refine ⟨by omega, (y, x % y), ?_, ?_, Nat.mod_lt _ hy'⟩
      · rw [Int.fmod_eq_emod_of_nonneg _ (by omega)]
        rfl
      · show Nat.gcd y (x % y) = _
        rw [← hg, Nat.gcd_comm y, ← Nat.gcd_rec, Nat.gcd_comm]
    · have : y = 0 := by omega
      subst this
      rw [show x = Int.gcd a b by rw [← hg]; exact (Nat.gcd_zero_right x).symm]
      exact h
  · exact h.elim
theorem spx_law_common_v1 {a b : Int} {R : D → Prop} : sp_law_common_v1 [.int a, .int b] R = R (.int (Int.gcd a b : Nat)) := rfl
local macro_rules | `(tactic| walk_at "d1") => `(tactic| try simp only [dSeq, dSkip, dPass, dRet, dRetN, dDrop, dCond, dAsg, gNm, gTp, dOwn, dOwnL, dPar, dAug, dApp, dExt, dFrz, dFor, dLc, dBreak, dCont, dVar, dC, dOp, dT, dIsi, dNeg, dNot, dTNot, dAnd, dOr, dTAnd, dTOr, dIf, dCh, dNil, dCons, dTup, dLst, dIxO, dB, dCall, dCallW, dItems, dRng1, dRng2, dYes, fnE, startE, startW, startS, dLenO, dLenS, dIxS, dSl, dPt, dNo, wipeE, addD_int, addD_str, addD_tup, addD_lst, subD_int, mulD_int, mulD_tup, mulD_lst, fdivD_int, modD_int, powD_int, shlD_int, shrD_int, andD_int, ltD_int, leD_int, gtD_int, geD_int, eqD_ap, neD_ap, isD_ap, isNotD_ap, isNon_none, isNon_int, isNon_bool, isNon_str, isNon_tup, isNon_lst, isInt_none, isInt_int, isInt_bool, isInt_str, isInt_tup, isInt_lst, isBool_none, isBool_int, isBool_bool, isBool_str, isBool_tup, isBool_lst, isStr_none, isStr_int, isStr_bool, isStr_str, isStr_tup, isStr_lst, isTup_none, isTup_int, isTup_bool, isTup_str, isTup_tup, isTup_lst, isLst_lst, Cnd_true, Cnd_false, Cnd_not, Cnd_dec, asB_bool, forall_const, true_implies, false_implies, implies_true, decide_true, decide_false, Classical.not_not, negD_int, notD_bool, onVal_val, onOwn_own, onDic_dic, onScr_scr, onWv_wv, onInt_int, onTup_tup, onLst_lst, onItems_lst, onItems_tup, frz1_own, frz1_val, frz1_un, ixD_lst, ixD_tup, ixL_int, optD_some, optI_some, absD_int, intD_int, intD_bool, lenD_lst, lenD_tup, lenD_str, tupleD_lst, tupleD_tup, listD_lst, listD_tup, min2D_int, max2D_int, sumD_ints, allD_bls, anyD_bls, slD_lst, slD_tup, slD_str, gNl_nil, gCs_cons, par2_two, seq1_lst, seq1_tup, rng1D_int, rng2D_int, gt_z, gt_s, sp_next_int, set_z, set_s, List.map_cons, List.map_nil, List.length_cons, List.length_nil, List.cons_append, List.nil_append, List.replicate, Nat.reduceAdd, Nat.reduceSub, Nat.zero_add, shaped_int, shaped_bool, shaped_none, shaped_listI, shaped_tupI, shaped_nilL, shaped_nilT, eqv_int, eqv_bool, eqv_str, eqv_none, eqv_list_nil, List.isEmpty_nil, List.isEmpty_cons, Bool.true_eq_false, Bool.false_eq_true, decide_eq_true_eq, and_self, true_and, and_true, not_dec, Bool.not_eq_true', decide_eq_false_iff_not, atI_0, atI_1, atI_2, ite_true, ite_false, if_true, if_false, reduceIte, Bool.not_true, Bool.not_false, not_true_eq_false, not_false_eq_true, List.set_cons_zero, List.set_cons_succ, dPar3, dRev, par3_three, sortedD_ints, revD_tup, two_nat, one_nat, three_nat, dCh3, dOwnC, dPutPar, putPar_two, dZip2, zip2D_lst, zip2D_tup, dPut, isBD_bl, isNotBD_bl, dNewO, dPutO, dSortedO, putKD_int, dPar3O, dParO2, par3O_two, parO2_one, minLD_lst, dKeysW, rdPairs_nil, rdPairs_cons, onPair_ii, revD_lst])
local macro_rules | `(tactic| walk_at "dd") => `(tactic| (walk_at "d1"; repeat (with_reducible (refine then_intro ?_); walk_at "d1")))
abbrev Form := Int × Int × Int
def formD (f : Form) : PyData := .tuple [.int f.1, .int f.2.1, .int f.2.2]
def disc (f : Form) : Int := f.2.1 * f.2.1 - 4 * f.1 * f.2.2
def Red (f : Form) : Prop := -f.1 < f.2.1 ∧ f.2.1 ≤ f.1 ∧ f.1 ≤ f.2.2 ∧ ¬ (f.1 = f.2.2 ∧ f.2.1 < 0)
instance (f : Form) : Decidable (Red f) := inferInstanceAs (Decidable (_ ∧ _ ∧ _ ∧ ¬ (_ ∧ _)))
def shiftF (t : Int) (f : Form) : Form := (f.1, f.2.1 + 2 * t * f.1, f.2.2 + t * f.2.1 + t * t * f.1)
def swapF (f : Form) : Form := (f.2.2, -f.2.1, f.1)
/-- come to by shifts and swaps -/
inductive FEq : Form → Form → Prop
  | refl (f : Form) : FEq f f
  | shift {f g : Form} (t : Int) : FEq f g → FEq f (shiftF t g)
  | swap {f g : Form} : FEq f g → FEq f (swapF g)
theorem disc_shift (t : Int) (f : Form) : disc (shiftF t f) = disc f := by
  unfold disc shiftF
  grind
theorem disc_swap (f : Form) : disc (swapF f) = disc f := by
  unfold disc swapF
  grind
theorem FEq.disc {f g : Form} (h : FEq f g) : disc g = disc f := by
  induction h with
  | refl => rfl
  | shift t _ ih => rw [disc_shift, ih]
  | swap _ ih => rw [disc_swap, ih]
/-- a > 0 and b b - 4 a c < 0: then c > 0 -/
theorem pos_c {f : Form} (ha : 0 < f.1) (hd : disc f < 0) : 0 < f.2.2 := by
  unfold disc at hd
  rcases (show 0 < f.2.2 ∨ f.2.2 ≤ 0 by omega) with h | h
  · exact h
  · have h1 := Int.mul_le_mul_of_nonneg_left h (show 0 ≤ 4 * f.1 by omega)
    have h2 : 0 ≤ f.2.1 * f.2.1 := by
      rcases Int.le_total 0 f.2.1 with z | z
      · exact Int.mul_nonneg z z
      · exact Int.mul_nonneg_of_nonpos_of_nonpos z z
    omega
theorem eqvAll_ints : ∀ xs ys : List Int, PyData.eqvAll (xs.map .int) (ys.map .int) = decide (xs = ys)
  | [], [] => rfl
  | [], _ :: _ => rfl
  | _ :: _, [] => rfl
  | x :: xs, y :: ys => by
    rw [List.map_cons, List.map_cons, PyData.eqvAll, eqv_int, eqvAll_ints xs ys, ← Bool.decide_and]
    exact decide_eq_decide.mpr ⟨fun ⟨a, b⟩ => by rw [a, b], fun e => List.cons.inj e⟩
theorem eqv_tupI (xs ys : List Int) : PyData.eqv (.tuple (xs.map .int)) (.tuple (ys.map .int)) = decide (xs = ys) := by
  rw [PyData.eqv]
  exact eqvAll_ints xs ys
theorem eqv_form (f g : Form) : PyData.eqv (formD f) (formD g) = decide (f = g) := by
  have := eqv_tupI [f.1, f.2.1, f.2.2] [g.1, g.2.1, g.2.2]
  refine Eq.trans this (decide_eq_decide.mpr ⟨fun e => ?_, fun e => by rw [e]⟩)
  simp only [List.cons.injEq, and_true] at e
  exact Prod.ext e.1 (Prod.ext e.2.1 e.2.2)
/-- the forms of d with a given first number, in order of the middle one -/
def cOf (d : Int) (a : Nat) (b : Int) : Int := (b * b - d) / (4 * (a : Int))
def okF (d : Int) (a : Nat) (b : Int) : Bool := decide ((b * b - d) % (4 * (a : Int)) = 0) && decide (Red ((a : Int), b, cOf d a b)) && decide (Nat.gcd (Int.gcd a b) (cOf d a b).natAbs = 1)
def bsOf (a : Nat) : List Int := (List.range (2 * a)).map fun (i : Nat) => -(a : Int) + 1 + (i : Int)
def rowF (d : Int) (a : Nat) (bs : List Int) : List Form := (bs.filter (okF d a)).map fun b => ((a : Int), b, cOf d a b)
def allF (d : Int) (a : Nat) : List Form :=
  if 3 * (a : Int) * a ≤ -d then rowF d a (bsOf a) ++ allF d (a + 1) else []
termination_by (-d).toNat + 1 - a
decreasing_by
  rename_i h
  have h1 : (a : Int) ≤ 3 * (a : Int) * a := by
    rcases Nat.eq_zero_or_pos a with z | z
    · subst z; decide
    · have : 3 * (a : Int) * 1 ≤ 3 * (a : Int) * a := Int.mul_le_mul_of_nonneg_left (by omega) (by omega)
      omega
  omega
theorem allF_more {d : Int} {a : Nat} (h : 3 * (a : Int) * a ≤ -d) : allF d a = rowF d a (bsOf a) ++ allF d (a + 1) := by rw [allF, if_pos h]
theorem allF_stop {d : Int} {a : Nat} (h : ¬ 3 * (a : Int) * a ≤ -d) : allF d a = [] := by rw [allF, if_neg h]
theorem rowF_snoc {d : Int} {a : Nat} {bs : List Int} {b : Int} : rowF d a (bs ++ [b]) = rowF d a bs ++ if okF d a b then [((a : Int), b, cOf d a b)] else [] := by
  unfold rowF
  rw [List.filter_append, List.map_append]
  congr 1
  by_cases h : okF d a b = true
  · rw [if_pos h, List.filter_cons_of_pos h]; rfl
  · rw [if_neg h, List.filter_cons_of_neg h]; rfl
theorem rowF_len (d : Int) (a : Nat) (bs : List Int) : (rowF d a bs).length ≤ bs.length := by
  unfold rowF
  rw [List.length_map]
  exact List.length_filter_le _ _
theorem bsOf_len (a : Nat) : (bsOf a).length = 2 * a := by unfold bsOf; simp
theorem bsOf_take {a t : Nat} (h : t < 2 * a) : (bsOf a).take (t + 1) = (bsOf a).take t ++ [-(a : Int) + 1 + (t : Int)] := by
  refine take_snoc ?_
  unfold bsOf
  rw [List.getElem?_map, List.getElem?_range h]
  rfl
theorem sq_lt {d : Int} {a : Nat} (h : 3 * (a : Int) * a ≤ -d) : a ≤ (-d).toNat := by
  rcases Nat.eq_zero_or_pos a with z | z
  · omega
  · have : 3 * (a : Int) * 1 ≤ 3 * (a : Int) * a := Int.mul_le_mul_of_nonneg_left (by omega) (by omega)
    omega
theorem allF_len (d : Int) (M : Nat) (hM : (-d).toNat ≤ M) : ∀ (n a : Nat), (-d).toNat + 1 - a = n → (allF d a).length ≤ n * (2 * M) := by
  intro n
  induction n with
  | zero =>
    intro a h
    rw [allF_stop (fun z => by have := sq_lt z; omega)]
    exact Nat.zero_le _
  | succ n ih =>
    intro a h
    by_cases z : 3 * (a : Int) * a ≤ -d
    · rw [allF_more z, List.length_append]
      have h1 := rowF_len d a (bsOf a)
      rw [bsOf_len] at h1
      have h2 := ih (a + 1) (by omega)
      have h3 := sq_lt z
      rw [Nat.succ_mul]
      omega
    · rw [allF_stop z]
      exact Nat.zero_le _
def formI (f : Form) : List Int := [f.1, f.2.1, f.2.2]
theorem formD_tup (f : Form) : formD f = tupD (formI f) := rfl
theorem lexI_anti : ∀ {x y : List Int}, x.length = y.length → lexI x y = false → lexI y x = false → x = y
  | [], [], _, _, _ => rfl
  | [], _ :: _, h, _, _ => by simp at h
  | _ :: _, [], h, _, _ => by simp at h
  | a :: x, b :: y, h, h1, h2 => by
    simp only [lexI] at h1 h2
    by_cases e : a = b
    · subst e
      rw [if_pos rfl] at h1 h2
      rw [lexI_anti (by simpa using h) h1 h2]
    · rw [if_neg e, decide_eq_false_iff_not] at h1
      rw [if_neg (fun z => e z.symm), decide_eq_false_iff_not] at h2
      omega
theorem lex_unique {d : Nat} : ∀ {l1 l2 : List (List Int)}, l1.Perm l2 → (∀ x ∈ l1, x.length = d) → l1.Pairwise (fun x y => lexI y x = false) → l2.Pairwise (fun x y => lexI y x = false) → l1 = l2
  | [], l2, h, _, _, _ => by rw [List.nil_perm.mp h]
  | a :: l1, [], h, _, _, _ => by have := h.length_eq; simp at this
  | a :: l1, b :: l2, h, hl, h1, h2 => by
    rw [List.pairwise_cons] at h1 h2
    have m1 : b ∈ a :: l1 := h.mem_iff.mpr List.mem_cons_self
    have m2 : a ∈ b :: l2 := h.mem_iff.mp List.mem_cons_self
    have e : a = b := by
      have lb := hl b m1
      have la := hl a List.mem_cons_self
      rcases List.mem_cons.mp m1 with e | m1
      · exact e.symm
      · rcases List.mem_cons.mp m2 with e | m2
        · exact e
        · exact lexI_anti (by omega) (h2.1 a m2) (h1.1 b m1)
    subst e
    rw [lex_unique (List.perm_cons a |>.mp h) (fun x hx => hl x (List.mem_cons_of_mem _ hx)) h1.2 h2.2]
def unitF (d : Int) : Form := if d % 4 = 0 then (1, 0, -d / 4) else (1, 1, (1 - d) / 4)
theorem allF_first {d : Int} (hd : d < 0) (h4 : d % 4 = 0 ∨ d % 4 = 1) : (allF d 1).filter (fun f => decide (f.1 = 1)) = [unitF d] := by
  have big : ∀ (n a : Nat), (-d).toNat + 1 - a = n → 2 ≤ a → (allF d a).filter (fun f => decide (f.1 = 1)) = [] := by
    intro n
    induction n with
    | zero =>
      intro a h _
      rw [allF_stop (fun z => by have := sq_lt z; omega)]
      rfl
    | succ n ih =>
      intro a h ha
      by_cases z : 3 * (a : Int) * a ≤ -d
      · rw [allF_more z, List.filter_append, ih (a + 1) (by omega) (by omega), List.append_nil, List.filter_eq_nil_iff]
        intro f hf
        unfold rowF at hf
        obtain ⟨b, _, rfl⟩ := List.mem_map.mp hf
        rw [decide_eq_true_eq]
        show ¬ (a : Int) = 1
        omega
      · rw [allF_stop z]
        rfl
  have h3 : 3 * ((1 : Nat) : Int) * ((1 : Nat) : Int) ≤ -d := by
    show 3 * 1 * 1 ≤ -d
    omega
  rw [allF_more h3, List.filter_append, big _ 2 rfl (Nat.le_refl _), List.append_nil]
  have eb : bsOf 1 = [0, 1] := rfl
  rw [eb]
  unfold rowF unitF
  have c0 : cOf d 1 0 = -d / 4 := by
    show (0 - d) / 4 = _
    rw [Int.zero_sub]
  have c1 : cOf d 1 1 = (1 - d) / 4 := rfl
  rcases h4 with h4 | h4
  · have k0 : okF d 1 0 = true := by
      unfold okF
      rw [Bool.and_eq_true, Bool.and_eq_true, decide_eq_true_eq, decide_eq_true_eq, decide_eq_true_eq, c0]
      refine ⟨⟨by show (0 - d) % 4 = 0; omega, ?_, ?_, ?_, ?_⟩, ?_⟩
      · show (-1 : Int) < 0; decide
      · show (0 : Int) ≤ 1; decide
      · show (1 : Int) ≤ -d / 4; omega
      · show ¬ (_ ∧ (0 : Int) < 0); omega
      · exact Nat.gcd_one_left _
    have k1 : okF d 1 1 = false := by
      unfold okF
      rw [Bool.and_eq_false_iff, Bool.and_eq_false_iff]
      exact .inl (.inl (decide_eq_false (by show ¬ (1 - d) % 4 = 0; omega)))
    rw [if_pos h4, List.filter_cons_of_pos k0, List.filter_cons_of_neg (by rw [k1]; decide), ← c0]
    rfl
  · have k0 : okF d 1 0 = false := by
      unfold okF
      rw [Bool.and_eq_false_iff, Bool.and_eq_false_iff]
      exact .inl (.inl (decide_eq_false (by show ¬ (0 - d) % 4 = 0; omega)))
    have k1 : okF d 1 1 = true := by
      unfold okF
      rw [Bool.and_eq_true, Bool.and_eq_true, decide_eq_true_eq, decide_eq_true_eq, decide_eq_true_eq, c1]
      refine ⟨⟨by show (1 - d) % 4 = 0; omega, ?_, ?_, ?_, ?_⟩, ?_⟩
      · show (-1 : Int) < 1; decide
      · show (1 : Int) ≤ 1; decide
      · show (1 : Int) ≤ (1 - d) / 4; omega
      · show ¬ (_ ∧ (1 : Int) < 0); omega
      · exact Nat.gcd_one_left _
    rw [if_neg (by omega), List.filter_cons_of_neg (by rw [k0]; decide), List.filter_cons_of_pos k1, ← c1]
    rfl
local macro_rules | `(tactic| walk_at "d1") => `(tactic| try simp only [dSeq, dSkip, dPass, dRet, dRetN, dDrop, dCond, dAsg, gNm, gTp, dOwn, dOwnL, dPar, dAug, dApp, dExt, dFrz, dFor, dLc, dBreak, dCont, dVar, dC, dOp, dT, dIsi, dNeg, dNot, dTNot, dAnd, dOr, dTAnd, dTOr, dIf, dCh, dNil, dCons, dTup, dLst, dIxO, dB, dCall, dCallW, dItems, dRng1, dRng2, dYes, fnE, startE, startW, startS, dLenO, dLenS, dIxS, dSl, dPt, dNo, wipeE, addD_int, addD_str, addD_tup, addD_lst, subD_int, mulD_int, mulD_tup, mulD_lst, fdivD_int, modD_int, powD_int, shlD_int, shrD_int, andD_int, ltD_int, leD_int, gtD_int, geD_int, eqD_ap, neD_ap, isD_ap, isNotD_ap, isNon_none, isNon_int, isNon_bool, isNon_str, isNon_tup, isNon_lst, isInt_none, isInt_int, isInt_bool, isInt_str, isInt_tup, isInt_lst, isBool_none, isBool_int, isBool_bool, isBool_str, isBool_tup, isBool_lst, isStr_none, isStr_int, isStr_bool, isStr_str, isStr_tup, isStr_lst, isTup_none, isTup_int, isTup_bool, isTup_str, isTup_tup, isTup_lst, isLst_lst, Cnd_true, Cnd_false, Cnd_not, Cnd_dec, asB_bool, forall_const, true_implies, false_implies, implies_true, decide_true, decide_false, Classical.not_not, negD_int, notD_bool, onVal_val, onOwn_own, onDic_dic, onScr_scr, onWv_wv, onInt_int, onTup_tup, onLst_lst, onItems_lst, onItems_tup, frz1_own, frz1_val, frz1_un, ixD_lst, ixD_tup, ixL_int, optD_some, optI_some, absD_int, intD_int, intD_bool, lenD_lst, lenD_tup, lenD_str, tupleD_lst, tupleD_tup, listD_lst, listD_tup, min2D_int, max2D_int, sumD_ints, allD_bls, anyD_bls, slD_lst, slD_tup, slD_str, gNl_nil, gCs_cons, par2_two, seq1_lst, seq1_tup, rng1D_int, rng2D_int, gt_z, gt_s, sp_next_int, set_z, set_s, List.map_cons, List.map_nil, List.length_cons, List.length_nil, List.cons_append, List.nil_append, List.replicate, Nat.reduceAdd, Nat.reduceSub, Nat.zero_add, shaped_int, shaped_bool, shaped_none, shaped_listI, shaped_tupI, shaped_nilL, shaped_nilT, eqv_int, eqv_bool, eqv_str, eqv_none, eqv_list_nil, List.isEmpty_nil, List.isEmpty_cons, Bool.true_eq_false, Bool.false_eq_true, decide_eq_true_eq, and_self, true_and, and_true, not_dec, Bool.not_eq_true', decide_eq_false_iff_not, atI_0, atI_1, atI_2, ite_true, ite_false, if_true, if_false, reduceIte, Bool.not_true, Bool.not_false, not_true_eq_false, not_false_eq_true, List.set_cons_zero, List.set_cons_succ, dPar3, dRev, par3_three, sortedD_ints, revD_tup, two_nat, one_nat, three_nat, dCh3, dOwnC, dPutPar, putPar_two, dZip2, zip2D_lst, zip2D_tup, dPut, isBD_bl, isNotBD_bl, dNewO, dPutO, dSortedO, putKD_int, dPar3O, dParO2, par3O_two, parO2_one, minLD_lst, dKeysW, rdPairs_nil, rdPairs_cons, onPair_ii, revD_lst])
local macro_rules | `(tactic| walk_at "dd") => `(tactic| (walk_at "d1"; repeat (with_reducible (refine then_intro ?_); walk_at "d1")))
def rd_common_b1 : DTS :=
  (dPar 0 1 (dCons (dVar 1) (dCons (dOp modD (dVar 0) (dVar 1)) dNil)))
def rd_common : DTS :=
  (dSeq (dPar 0 1 (dCons (dB absD (dCons (dVar 0) dNil)) (dCons (dB absD (dCons (dVar 1) dNil)) dNil))) (dSeq (dWhile (dT (dOp gtD (dVar 1) (dC (.int 0)))) rd_common_b1) (dRet (dVar 0))))
def sp_common : Lay.Spec := fun ds R => match ds with | [.int a, .int b] => R (.int (Int.gcd a b : Nat)) | _ => False
theorem ok_common : ∀ ds R, sp_common ds R → rd_common (fnE R) (startE 2 ds) := by
  intro ds R h
  unfold sp_common at h
  split at h
  · rename_i a b
    unfold rd_common
    walk_at "dd"
    refine while_by (fun (s : Nat × Nat) => [.val (.int s.1), .val (.int s.2)]) (fun s => Nat.gcd s.1 s.2 = Int.gcd a b) (fun s => s.2) (a.natAbs, b.natAbs) rfl rfl ?_
    rintro ⟨x, y⟩ hg bk
    walk_at "dd"
    refine ⟨fun hy => ?_, fun hy => ?_⟩
    · have hy' : 0 < y := by omega
      unfold rd_common_b1
      walk_at "dd"
      refine ⟨by omega, (y, x % y), ?_, ?_, Nat.mod_lt _ hy'⟩
      · rw [Int.fmod_eq_emod_of_nonneg _ (by omega)]
        rfl
      · show Nat.gcd y (x % y) = _
        rw [← hg, Nat.gcd_comm y, ← Nat.gcd_rec, Nat.gcd_comm]
    · have : y = 0 := by omega
      subst this
      rw [show x = Int.gcd a b by rw [← hg]; exact (Nat.gcd_zero_right x).symm]
      exact h
  · exact h.elim
theorem spx_common {a b : Int} {R : D → Prop} : sp_common [.int a, .int b] R = R (.int (Int.gcd a b : Nat)) := rfl
local macro_rules | `(tactic| walk_at "d1") => `(tactic| try simp only [dSeq, dSkip, dPass, dRet, dRetN, dDrop, dCond, dAsg, gNm, gTp, dOwn, dOwnL, dPar, dAug, dApp, dExt, dFrz, dFor, dLc, dBreak, dCont, dVar, dC, dOp, dT, dIsi, dNeg, dNot, dTNot, dAnd, dOr, dTAnd, dTOr, dIf, dCh, dNil, dCons, dTup, dLst, dIxO, dB, dCall, dCallW, dItems, dRng1, dRng2, dYes, fnE, startE, startW, startS, dLenO, dLenS, dIxS, dSl, dPt, dNo, wipeE, addD_int, addD_str, addD_tup, addD_lst, subD_int, mulD_int, mulD_tup, mulD_lst, fdivD_int, modD_int, powD_int, shlD_int, shrD_int, andD_int, ltD_int, leD_int, gtD_int, geD_int, eqD_ap, neD_ap, isD_ap, isNotD_ap, isNon_none, isNon_int, isNon_bool, isNon_str, isNon_tup, isNon_lst, isInt_none, isInt_int, isInt_bool, isInt_str, isInt_tup, isInt_lst, isBool_none, isBool_int, isBool_bool, isBool_str, isBool_tup, isBool_lst, isStr_none, isStr_int, isStr_bool, isStr_str, isStr_tup, isStr_lst, isTup_none, isTup_int, isTup_bool, isTup_str, isTup_tup, isTup_lst, isLst_lst, Cnd_true, Cnd_false, Cnd_not, Cnd_dec, asB_bool, forall_const, true_implies, false_implies, implies_true, decide_true, decide_false, Classical.not_not, negD_int, notD_bool, onVal_val, onOwn_own, onDic_dic, onScr_scr, onWv_wv, onInt_int, onTup_tup, onLst_lst, onItems_lst, onItems_tup, frz1_own, frz1_val, frz1_un, ixD_lst, ixD_tup, ixL_int, optD_some, optI_some, absD_int, intD_int, intD_bool, lenD_lst, lenD_tup, lenD_str, tupleD_lst, tupleD_tup, listD_lst, listD_tup, min2D_int, max2D_int, sumD_ints, allD_bls, anyD_bls, slD_lst, slD_tup, slD_str, gNl_nil, gCs_cons, par2_two, seq1_lst, seq1_tup, rng1D_int, rng2D_int, gt_z, gt_s, sp_next_int, set_z, set_s, List.map_cons, List.map_nil, List.length_cons, List.length_nil, List.cons_append, List.nil_append, List.replicate, Nat.reduceAdd, Nat.reduceSub, Nat.zero_add, shaped_int, shaped_bool, shaped_none, shaped_listI, shaped_tupI, shaped_nilL, shaped_nilT, eqv_int, eqv_bool, eqv_str, eqv_none, eqv_list_nil, List.isEmpty_nil, List.isEmpty_cons, Bool.true_eq_false, Bool.false_eq_true, decide_eq_true_eq, and_self, true_and, and_true, not_dec, Bool.not_eq_true', decide_eq_false_iff_not, atI_0, atI_1, atI_2, ite_true, ite_false, if_true, if_false, reduceIte, Bool.not_true, Bool.not_false, not_true_eq_false, not_false_eq_true, List.set_cons_zero, List.set_cons_succ, dPar3, dRev, par3_three, sortedD_ints, revD_tup, two_nat, one_nat, three_nat, dCh3, dOwnC, dPutPar, putPar_two, dZip2, zip2D_lst, zip2D_tup, dPut, isBD_bl, isNotBD_bl, dNewO, dPutO, dSortedO, putKD_int, dPar3O, dParO2, par3O_two, parO2_one, minLD_lst, dKeysW, rdPairs_nil, rdPairs_cons, onPair_ii, revD_lst, spx_common])
local macro_rules | `(tactic| walk_at "dd") => `(tactic| (walk_at "d1"; repeat (with_reducible (refine then_intro ?_); walk_at "d1")))
def rd_all_common_b1 : DTS :=
  (dAsg (dCall sp_common (dCons (dVar 1) (dCons (dVar 2) dNil))) (gNm 1))
def rd_all_common : DTS :=
  (dSeq (dAsg (dC (.int 0)) (gNm 1)) (dSeq (dFor (dItems (dVar 0)) (gNm 2) rd_all_common_b1) (dRet (dVar 1))))
def gcdL (ns : List Int) : Nat := ns.foldl (fun g n => Nat.gcd g n.natAbs) 0
theorem gcdL_snoc (l : List Int) (n : Int) : gcdL (l ++ [n]) = Nat.gcd (gcdL l) n.natAbs := by
  unfold gcdL
  rw [List.foldl_append]
  rfl
def sp_all_common : Lay.Spec := fun ds R => match ds with
  | [.tuple es] => ∃ ns : List Int, es = ns.map .int ∧ R (.int (gcdL ns : Nat))
  | [.list es] => ∃ ns : List Int, es = ns.map .int ∧ R (.int (gcdL ns : Nat))
  | _ => False
theorem ok_all_common : ∀ ds R, sp_all_common ds R → rd_all_common (fnE R) (startE 3 ds) := by
  intro ds R h
  unfold sp_all_common at h
  split at h
  · obtain ⟨ns, rfl, h⟩ := h
    unfold rd_all_common
    walk_at "dd"
    refine for_by (fun (s : Nat × Sl) => [.val (.tuple (ns.map .int)), .val (.int s.1), s.2]) (fun t s => s.1 = gcdL (ns.take t)) (0, .un) rfl rfl ?_ ?_
    · rintro t d hd ⟨g, u⟩ hg bk
      simp only at hg
      rw [List.getElem?_map] at hd
      obtain ⟨n, hn, rfl⟩ := Option.map_eq_some_iff.mp hd
      unfold rd_all_common_b1
      walk_at "dd"
      refine ⟨(Int.gcd (g : Int) n, _), rfl, ?_⟩
      rw [take_snoc hn, gcdL_snoc, ← hg]
      rfl
    · rintro ⟨g, u⟩ hg
      simp only [List.length_map, List.take_length] at hg
      walk_at "dd"
      rw [hg]
      exact h
  · obtain ⟨ns, rfl, h⟩ := h
    unfold rd_all_common
    walk_at "dd"
    refine for_by (fun (s : Nat × Sl) => [.val (.list (ns.map .int)), .val (.int s.1), s.2]) (fun t s => s.1 = gcdL (ns.take t)) (0, .un) rfl rfl ?_ ?_
    · rintro t d hd ⟨g, u⟩ hg bk
      simp only at hg
      rw [List.getElem?_map] at hd
      obtain ⟨n, hn, rfl⟩ := Option.map_eq_some_iff.mp hd
      unfold rd_all_common_b1
      walk_at "dd"
      refine ⟨(Int.gcd (g : Int) n, _), rfl, ?_⟩
      rw [take_snoc hn, gcdL_snoc, ← hg]
      rfl
    · rintro ⟨g, u⟩ hg
      simp only [List.length_map, List.take_length] at hg
      walk_at "dd"
      rw [hg]
      exact h
  · exact h.elim
local macro_rules | `(tactic| walk_at "d1") => `(tactic| try simp only [dSeq, dSkip, dPass, dRet, dRetN, dDrop, dCond, dAsg, gNm, gTp, dOwn, dOwnL, dPar, dAug, dApp, dExt, dFrz, dFor, dLc, dBreak, dCont, dVar, dC, dOp, dT, dIsi, dNeg, dNot, dTNot, dAnd, dOr, dTAnd, dTOr, dIf, dCh, dNil, dCons, dTup, dLst, dIxO, dB, dCall, dCallW, dItems, dRng1, dRng2, dYes, fnE, startE, startW, startS, dLenO, dLenS, dIxS, dSl, dPt, dNo, wipeE, addD_int, addD_str, addD_tup, addD_lst, subD_int, mulD_int, mulD_tup, mulD_lst, fdivD_int, modD_int, powD_int, shlD_int, shrD_int, andD_int, ltD_int, leD_int, gtD_int, geD_int, eqD_ap, neD_ap, isD_ap, isNotD_ap, isNon_none, isNon_int, isNon_bool, isNon_str, isNon_tup, isNon_lst, isInt_none, isInt_int, isInt_bool, isInt_str, isInt_tup, isInt_lst, isBool_none, isBool_int, isBool_bool, isBool_str, isBool_tup, isBool_lst, isStr_none, isStr_int, isStr_bool, isStr_str, isStr_tup, isStr_lst, isTup_none, isTup_int, isTup_bool, isTup_str, isTup_tup, isTup_lst, isLst_lst, Cnd_true, Cnd_false, Cnd_not, Cnd_dec, asB_bool, forall_const, true_implies, false_implies, implies_true, decide_true, decide_false, Classical.not_not, negD_int, notD_bool, onVal_val, onOwn_own, onDic_dic, onScr_scr, onWv_wv, onInt_int, onTup_tup, onLst_lst, onItems_lst, onItems_tup, frz1_own, frz1_val, frz1_un, ixD_lst, ixD_tup, ixL_int, optD_some, optI_some, absD_int, intD_int, intD_bool, lenD_lst, lenD_tup, lenD_str, tupleD_lst, tupleD_tup, listD_lst, listD_tup, min2D_int, max2D_int, sumD_ints, allD_bls, anyD_bls, slD_lst, slD_tup, slD_str, gNl_nil, gCs_cons, par2_two, seq1_lst, seq1_tup, rng1D_int, rng2D_int, gt_z, gt_s, sp_next_int, set_z, set_s, List.map_cons, List.map_nil, List.length_cons, List.length_nil, List.cons_append, List.nil_append, List.replicate, Nat.reduceAdd, Nat.reduceSub, Nat.zero_add, shaped_int, shaped_bool, shaped_none, shaped_listI, shaped_tupI, shaped_nilL, shaped_nilT, eqv_int, eqv_bool, eqv_str, eqv_none, eqv_list_nil, List.isEmpty_nil, List.isEmpty_cons, Bool.true_eq_false, Bool.false_eq_true, decide_eq_true_eq, and_self, true_and, and_true, not_dec, Bool.not_eq_true', decide_eq_false_iff_not, atI_0, atI_1, atI_2, ite_true, ite_false, if_true, if_false, reduceIte, Bool.not_true, Bool.not_false, not_true_eq_false, not_false_eq_true, List.set_cons_zero, List.set_cons_succ, dPar3, dRev, par3_three, sortedD_ints, revD_tup, two_nat, one_nat, three_nat, dCh3, dOwnC, dPutPar, putPar_two, dZip2, zip2D_lst, zip2D_tup, dPut, isBD_bl, isNotBD_bl, dNewO, dPutO, dSortedO, putKD_int, dPar3O, dParO2, par3O_two, parO2_one, minLD_lst, dKeysW, rdPairs_nil, rdPairs_cons, onPair_ii, revD_lst])
local macro_rules | `(tactic| walk_at "dd") => `(tactic| (walk_at "d1"; repeat (with_reducible (refine then_intro ?_); walk_at "d1")))
def rd_least_two_b1 : DTS :=
  (dCond (dTNot (dT (dCh ltD leD (dNeg (dVar 1)) (dVar 2) (dVar 1)))) (dSeq (dAsg (dOp fdivD (dOp subD (dVar 1) (dVar 2)) (dOp mulD (dC (.int 2)) (dVar 1))) (gNm 4)) (dSeq (dAsg (dOp addD (dOp addD (dVar 3) (dOp mulD (dVar 4) (dVar 2))) (dOp mulD (dOp mulD (dVar 4) (dVar 4)) (dVar 1))) (gNm 3)) (dAsg (dOp addD (dVar 2) (dOp mulD (dOp mulD (dC (.int 2)) (dVar 4)) (dVar 1))) (gNm 2)))) (dPar3 1 2 3 (dCons (dVar 3) (dCons (dNeg (dVar 2)) (dCons (dVar 1) dNil)))))
def rd_least_two : DTS :=
  (dSeq (dAsg (dVar 0) (gTp 3 (gCs (gNm 1) (gCs (gNm 2) (gCs (gNm 3) gNl))))) (dSeq (dWhile (dTOr (dTNot (dT (dCh3 ltD leD leD (dNeg (dVar 1)) (dVar 2) (dVar 1) (dVar 3)))) (dTAnd (dT (dOp eqD (dVar 1) (dVar 3))) (dT (dOp ltD (dVar 2) (dC (.int 0)))))) rd_least_two_b1) (dRet (dTup (dCons (dVar 1) (dCons (dVar 2) (dCons (dVar 3) dNil)))))))
def sp_least_two : Lay.Spec := fun ds R => match ds with
  | [.tuple [.int a, .int b, .int c]] => (0 < a ∧ disc (a, b, c) < 0 ∧ ∃ k : Nat, k ≤ 1000 ∧ a.natAbs < 2 ^ k ∧ b.natAbs < 2 ^ k ∧ c.natAbs < 2 ^ k) ∧ ∀ g : Form, FEq (a, b, c) g → Red g → (Red (a, b, c) → g = (a, b, c)) → R (formD g)
  | _ => False
structure LeI (f0 : Form) (k : Nat) (f : Form) : Prop where
  a0 : 0 < f.1
  eq : FEq f0 f
  keep : Red f0 → f = f0
  ab : f.1.natAbs < 2 ^ k
  bb : f.2.1.natAbs < 2 ^ k
  cb : f.2.2.natAbs < 2 ^ (2 * k + 4)
def leM (f : Form) : Nat := 4 * f.1.toNat + (if -f.1 < f.2.1 ∧ f.2.1 ≤ f.1 then 0 else 2) + (if f.2.1 < 0 then 1 else 0)
theorem LeI.shift {f0 : Form} {k : Nat} {f : Form} (hd0 : disc f0 < 0) (db : (disc f0).natAbs < 2 ^ (2 * k + 3)) (h : LeI f0 k f) (hn : ¬ (-f.1 < f.2.1 ∧ f.2.1 ≤ f.1)) :
    LeI f0 k (shiftF ((f.1 - f.2.1) / (2 * f.1)) f) ∧ leM (shiftF ((f.1 - f.2.1) / (2 * f.1)) f) < leM f := by
  obtain ⟨a0, eq, keep, ab, bb, cb⟩ := h
  have e := Int.mul_ediv_add_emod (f.1 - f.2.1) (2 * f.1)
  have r0 := Int.emod_nonneg (f.1 - f.2.1) (show 2 * f.1 ≠ 0 by omega)
  have r1 := Int.emod_lt_of_pos (f.1 - f.2.1) (show 0 < 2 * f.1 by omega)
  generalize ht : (f.1 - f.2.1) / (2 * f.1) = t at *
  generalize (f.1 - f.2.1) % (2 * f.1) = r at *
  have hb : (shiftF t f).2.1 = f.1 - r := by
    show f.2.1 + 2 * t * f.1 = f.1 - r
    have : 2 * f.1 * t = 2 * t * f.1 := by grind
    omega
  have hab : (shiftF t f).1 = f.1 := rfl
  have eq' : FEq f0 (shiftF t f) := .shift t eq
  have hd := eq'.disc
  have hc0 := pos_c (f := shiftF t f) (by rw [hab]; exact a0) (by rw [hd]; exact hd0)
  have b1 : (shiftF t f).2.1.natAbs ≤ f.1.natAbs := by rw [hb]; omega
  refine ⟨⟨by rw [hab]; exact a0, eq', fun z => absurd ?_ hn, ab, by omega, ?_⟩, ?_⟩
  · have := keep z
    subst this
    exact ⟨z.1, z.2.1⟩
  · -- the last number
    generalize shiftF t f = g at *
    have h1 : 4 * g.1 * g.2.2 = g.2.1 * g.2.1 - disc f0 := by rw [← hd]; unfold disc; omega
    have h2 : g.2.2 ≤ 4 * g.1 * g.2.2 := by
      have := Int.mul_le_mul_of_nonneg_right (show 1 ≤ 4 * g.1 by omega) (show 0 ≤ g.2.2 by omega)
      omega
    have h3 : (g.2.1 * g.2.1).natAbs < 2 ^ (2 * k) := by
      have := bits_mul (x := g.2.1) (y := g.2.1) (n := k) (m := k) (by omega) (by omega)
      rwa [show k + k = 2 * k by omega] at this
    have e3 : 2 ^ (2 * k + 3) = 2 ^ (2 * k) * 8 := Nat.pow_add 2 (2 * k) 3
    have e4 : 2 ^ (2 * k + 4) = 2 ^ (2 * k) * 16 := Nat.pow_add 2 (2 * k) 4
    rw [e3] at db
    rw [e4]
    generalize 2 ^ (2 * k) = T at *
    generalize g.2.1 * g.2.1 = B at *
    generalize 4 * g.1 * g.2.2 = C at *
    omega
  · unfold leM
    rw [hab, if_neg hn, hb, if_pos (by omega)]
    split <;> split <;> omega
theorem LeI.swap {f0 : Form} {k : Nat} {f : Form} (hd0 : disc f0 < 0) (h : LeI f0 k f) (hy : -f.1 < f.2.1 ∧ f.2.1 ≤ f.1) (hn : ¬ Red f) : LeI f0 k (swapF f) ∧ leM (swapF f) < leM f := by
  obtain ⟨a0, eq, keep, ab, bb, cb⟩ := h
  have hd := eq.disc
  have hc0 := pos_c a0 (by rw [hd]; exact hd0)
  have hcase : f.2.2 < f.1 ∨ (f.1 = f.2.2 ∧ f.2.1 < 0) := by
    by_cases z : f.1 ≤ f.2.2
    · right
      by_cases z2 : f.1 = f.2.2 ∧ f.2.1 < 0
      · exact z2
      · exact absurd ⟨hy.1, hy.2, z, z2⟩ hn
    · left; omega
  have pk : 2 ^ k ≤ 2 ^ (2 * k + 4) := Nat.pow_le_pow_right (by decide) (by omega)
  have s1 : (swapF f).1 = f.2.2 := rfl
  have s2 : (swapF f).2.1 = -f.2.1 := rfl
  have s3 : (swapF f).2.2 = f.1 := rfl
  refine ⟨⟨by rw [s1]; exact hc0, .swap eq, fun z => absurd (by have := keep z; subst this; exact z) hn, by rw [s1]; omega, by rw [s2]; omega, by rw [s3]; omega⟩, ?_⟩
  unfold leM
  rw [s1, s2, if_pos hy]
  rcases hcase with h | ⟨h1, h2⟩
  · split <;> split <;> split <;> omega
  · rw [if_pos (by omega), if_neg (by omega), if_pos h2]
    omega
theorem chain_and {A B X Y : Prop} (hx : A → B → X) (hy : ¬ (A ∧ B) → Y) : (A → (B → X) ∧ (¬ B → Y)) ∧ (¬ A → Y) :=
  ⟨fun a => ⟨hx a, fun b => hy fun z => b z.2⟩, fun a => hy fun z => a z.1⟩
theorem ok_least_two : ∀ ds R, sp_least_two ds R → rd_least_two (fnE R) (startE 5 ds) := by
  intro ds R h
  unfold sp_least_two at h
  split at h
  · rename_i a b c
    obtain ⟨⟨ha, hd, k, hk, ab, bb, cb⟩, h⟩ := h
    have db : (disc (a, b, c)).natAbs < 2 ^ (2 * k + 3) := by
      have h1 := bits_mul bb bb
      have h2 := bits_mul (bits_mul (x := 4) (n := 3) (by decide) ab) cb
      have e1 : 2 ^ (2 * k + 3) = 2 ^ (2 * k) * 8 := Nat.pow_add 2 (2 * k) 3
      have e3 : 2 ^ (3 + k + k) = 2 ^ (2 * k) * 8 := by rw [show 3 + k + k = 2 * k + 3 by omega]; exact e1
      have e2 : 2 ^ (k + k) = 2 ^ (2 * k) := by rw [show k + k = 2 * k by omega]
      rw [e2] at h1
      have ac : 0 < c := pos_c (f := (a, b, c)) ha hd
      have h4 : (4 * a * c).natAbs < 2 ^ (2 * k) * 4 := by
        have := bits_mul ab cb
        rw [e2] at this
        rw [Int.mul_assoc, Int.natAbs_mul]
        show 4 * (a * c).natAbs < _
        omega
      have hpos : 0 ≤ b * b := by
        rcases Int.le_total 0 b with z | z
        · exact Int.mul_nonneg z z
        · exact Int.mul_nonneg_of_nonpos_of_nonpos z z
      have hdd : disc (a, b, c) = b * b - 4 * a * c := rfl
      rw [hdd] at hd ⊢
      rw [e1]
      generalize 2 ^ (2 * k) = T at *
      generalize b * b = B at *
      generalize 4 * a * c = C at *
      omega
    have hLe0 : LeI (a, b, c) k (a, b, c) := ⟨ha, .refl _, fun _ => rfl, ab, bb, bits_mono cb (by omega)⟩
    unfold rd_least_two
    walk_at "dd"
    refine while_by (fun (s : Form × Sl) => [.val (.tuple [.int a, .int b, .int c]), .val (.int s.1.1), .val (.int s.1.2.1), .val (.int s.1.2.2), s.2]) (fun s => LeI (a, b, c) k s.1) (fun s => leM s.1) ((a, b, c), .un) rfl hLe0 ?_
    rintro ⟨f, u⟩ hi bk
    simp only at hi
    have turn : ¬ Red f → rd_least_two_b1 { nx := fun en' => ∃ a' : Form × Sl, en' = [.val (.tuple [.int a, .int b, .int c]), .val (.int a'.1.1), .val (.int a'.1.2.1), .val (.int a'.1.2.2), a'.2] ∧ LeI (a, b, c) k a'.1 ∧ leM a'.1 < leM f, rt := R, bk := bk, ct := fun en' => ∃ a' : Form × Sl, en' = [.val (.tuple [.int a, .int b, .int c]), .val (.int a'.1.1), .val (.int a'.1.2.1), .val (.int a'.1.2.2), a'.2] ∧ LeI (a, b, c) k a'.1 ∧ leM a'.1 < leM f }
        [.val (.tuple [.int a, .int b, .int c]), .val (.int f.1), .val (.int f.2.1), .val (.int f.2.2), u] := fun hn => by
      have shift : ¬ (-f.1 < f.2.1 ∧ f.2.1 ≤ f.1) → _ := fun z => hi.shift hd db z
      unfold rd_least_two_b1
      walk_at "dd"
      refine chain_and (fun h1 h2 => ?_) fun h1 => ?_
      · obtain ⟨s1, s2⟩ := hi.swap hd ⟨h1, h2⟩ hn
        exact ⟨(swapF f, u), rfl, s1, s2⟩
      · have a0 := hi.a0
        obtain ⟨s1, s2⟩ := shift h1
        have b2 := bits_mul (x := 2) (n := 2) (by decide) hi.ab
        have bd : (f.1 - f.2.1).natAbs < 2 ^ (k + k + 1) := by
          have := bits_add hi.ab (y := -f.2.1) (m := k) (by rw [Int.natAbs_neg]; exact hi.bb)
          rwa [← Int.sub_eq_add_neg] at this
        have bq : ((f.1 - f.2.1) / (2 * f.1)).natAbs < 2 ^ (k + k + 1) := Nat.lt_of_le_of_lt (Int.natAbs_ediv_le_natAbs _ _) bd
        refine ⟨mulOk (x := 2) (n := 2) (by decide) hi.ab (by omega), divOk (by omega) b2 (by omega), ?_⟩
        rw [fdiv_pos _ (by omega)]
        generalize hq : (f.1 - f.2.1) / (2 * f.1) = t at *
        have bt2 := bits_mul bq bq
        have b2t := bits_mul (x := 2) (n := 2) (by decide) bq
        walk_at "dd"
        refine ⟨mulOk bq hi.bb (by omega), mulOk bq bq (by omega), mulOk bt2 hi.ab (by omega), ?_⟩
        walk_at "dd"
        exact ⟨mulOk (x := 2) (n := 2) (by decide) bq (by omega), mulOk b2t hi.ab (by omega), (shiftF t f, .val (.int t)), rfl, s1, s2⟩
    have stop : Red f → R (formD f) := fun hr => h f hi.eq hr hi.keep
    have stopT : Red f → Then (dRet (dTup (dCons (dVar 1) (dCons (dVar 2) (dCons (dVar 3) dNil))))) { nx := fun x => R PyData.none, rt := R } [.val (.tuple [.int a, .int b, .int c]), .val (.int f.1), .val (.int f.2.1), .val (.int f.2.2), u] := fun hr => by
      refine then_intro ?_
      walk_at "dd"
      exact stop hr
    walk_at "dd"
    refine ⟨fun h1 => ⟨fun h2 => ⟨fun h3 => ⟨fun h4 => ⟨fun h5 => turn ?_, fun h5 => stopT ?_⟩, fun h4 => stopT ?_⟩, fun h3 => turn ?_⟩, fun h2 => turn ?_⟩, fun h1 => turn ?_⟩ <;> unfold Red <;> omega
  · exact h.elim
theorem spx_least_two {a b c : Int} {R : D → Prop} : sp_least_two [.tuple [.int a, .int b, .int c]] R = ((0 < a ∧ disc (a, b, c) < 0 ∧ ∃ k : Nat, k ≤ 1000 ∧ a.natAbs < 2 ^ k ∧ b.natAbs < 2 ^ k ∧ c.natAbs < 2 ^ k) ∧ ∀ g : Form, FEq (a, b, c) g → Red g → (Red (a, b, c) → g = (a, b, c)) → R (formD g)) := rfl
local macro_rules | `(tactic| walk_at "d1") => `(tactic| try simp only [dSeq, dSkip, dPass, dRet, dRetN, dDrop, dCond, dAsg, gNm, gTp, dOwn, dOwnL, dPar, dAug, dApp, dExt, dFrz, dFor, dLc, dBreak, dCont, dVar, dC, dOp, dT, dIsi, dNeg, dNot, dTNot, dAnd, dOr, dTAnd, dTOr, dIf, dCh, dNil, dCons, dTup, dLst, dIxO, dB, dCall, dCallW, dItems, dRng1, dRng2, dYes, fnE, startE, startW, startS, dLenO, dLenS, dIxS, dSl, dPt, dNo, wipeE, addD_int, addD_str, addD_tup, addD_lst, subD_int, mulD_int, mulD_tup, mulD_lst, fdivD_int, modD_int, powD_int, shlD_int, shrD_int, andD_int, ltD_int, leD_int, gtD_int, geD_int, eqD_ap, neD_ap, isD_ap, isNotD_ap, isNon_none, isNon_int, isNon_bool, isNon_str, isNon_tup, isNon_lst, isInt_none, isInt_int, isInt_bool, isInt_str, isInt_tup, isInt_lst, isBool_none, isBool_int, isBool_bool, isBool_str, isBool_tup, isBool_lst, isStr_none, isStr_int, isStr_bool, isStr_str, isStr_tup, isStr_lst, isTup_none, isTup_int, isTup_bool, isTup_str, isTup_tup, isTup_lst, isLst_lst, Cnd_true, Cnd_false, Cnd_not, Cnd_dec, asB_bool, forall_const, true_implies, false_implies, implies_true, decide_true, decide_false, Classical.not_not, negD_int, notD_bool, onVal_val, onOwn_own, onDic_dic, onScr_scr, onWv_wv, onInt_int, onTup_tup, onLst_lst, onItems_lst, onItems_tup, frz1_own, frz1_val, frz1_un, ixD_lst, ixD_tup, ixL_int, optD_some, optI_some, absD_int, intD_int, intD_bool, lenD_lst, lenD_tup, lenD_str, tupleD_lst, tupleD_tup, listD_lst, listD_tup, min2D_int, max2D_int, sumD_ints, allD_bls, anyD_bls, slD_lst, slD_tup, slD_str, gNl_nil, gCs_cons, par2_two, seq1_lst, seq1_tup, rng1D_int, rng2D_int, gt_z, gt_s, sp_next_int, set_z, set_s, List.map_cons, List.map_nil, List.length_cons, List.length_nil, List.cons_append, List.nil_append, List.replicate, Nat.reduceAdd, Nat.reduceSub, Nat.zero_add, shaped_int, shaped_bool, shaped_none, shaped_listI, shaped_tupI, shaped_nilL, shaped_nilT, eqv_int, eqv_bool, eqv_str, eqv_none, eqv_list_nil, List.isEmpty_nil, List.isEmpty_cons, Bool.true_eq_false, Bool.false_eq_true, decide_eq_true_eq, and_self, true_and, and_true, not_dec, Bool.not_eq_true', decide_eq_false_iff_not, atI_0, atI_1, atI_2, ite_true, ite_false, if_true, if_false, reduceIte, Bool.not_true, Bool.not_false, not_true_eq_false, not_false_eq_true, List.set_cons_zero, List.set_cons_succ, dPar3, dRev, par3_three, sortedD_ints, revD_tup, two_nat, one_nat, three_nat, dCh3, dOwnC, dPutPar, putPar_two, dZip2, zip2D_lst, zip2D_tup, dPut, isBD_bl, isNotBD_bl, dNewO, dPutO, dSortedO, putKD_int, dPar3O, dParO2, par3O_two, parO2_one, minLD_lst, dKeysW, rdPairs_nil, rdPairs_cons, onPair_ii, revD_lst, spx_common, spx_least_two])
local macro_rules | `(tactic| walk_at "dd") => `(tactic| (walk_at "d1"; repeat (with_reducible (refine then_intro ?_); walk_at "d1")))
def rd_all_two_b1 : DTS :=
  (dCond (dT (dOp eqD (dOp modD (dOp subD (dOp mulD (dVar 3) (dVar 3)) (dVar 0)) (dOp mulD (dC (.int 4)) (dVar 2))) (dC (.int 0)))) (dSeq (dAsg (dTup (dCons (dVar 2) (dCons (dVar 3) (dCons (dOp fdivD (dOp subD (dOp mulD (dVar 3) (dVar 3)) (dVar 0)) (dOp mulD (dC (.int 4)) (dVar 2))) dNil)))) (gNm 4)) (dCond (dTAnd (dT (dOp eqD (dCall sp_all_common (dCons (dVar 4) dNil)) (dC (.int 1)))) (dT (dOp eqD (dCall sp_least_two (dCons (dVar 4) dNil)) (dVar 4)))) (dApp 1 (dVar 4)) dSkip)) dSkip)
def rd_all_two_b2 : DTS :=
  (dSeq (dFor (dRng2 (dCons (dOp addD (dNeg (dVar 2)) (dC (.int 1))) (dCons (dOp addD (dVar 2) (dC (.int 1))) dNil))) (gNm 3) rd_all_two_b1) (dAug 2 (fun i j => i + j) (dC (.int 1))))
def rd_all_two : DTS :=
  (dSeq (dOwn 1 dNil) (dSeq (dAsg (dC (.int 1)) (gNm 2)) (dSeq (dWhile (dT (dOp leD (dOp mulD (dOp mulD (dC (.int 3)) (dVar 2)) (dVar 2)) (dNeg (dVar 0)))) rd_all_two_b2) (dFrz 1 (dRet (dB tupleD (dCons (dB sortedTD (dCons (dVar 1) dNil)) dNil)))))))
def sp_all_two : Lay.Spec := fun ds R => match ds with
  | [.int d] => (d < 0 ∧ d.natAbs ≤ 2000) ∧ ∀ ms : List (List Int), ms.Perm ((allF d 1).map formI) → ms.Pairwise (fun x y => lexI y x = false) → R (.tuple (ms.map tupD))
  | _ => False
theorem shaped_form (f : Form) : SeqAt.shaped (formD f) = true := shaped_tupI [f.1, f.2.1, f.2.2]
theorem form_bound {d : Int} {a : Nat} {b : Int} (hd : d.natAbs ≤ 2000) (h3 : 3 * (a : Int) * a ≤ -d) (hb : b.natAbs ≤ a) (a0 : 0 < a) : (b * b).natAbs ≤ 4000000 ∧ (b * b - d).natAbs ≤ 4002000 ∧ (cOf d a b).natAbs ≤ 4002000 := by
  have ha := sq_lt h3
  have h1 : (b * b).natAbs ≤ 2000 * 2000 := mul_le_nat (by omega) (by omega)
  have h2 : (b * b - d).natAbs ≤ 4002000 := by omega
  refine ⟨by omega, h2, ?_⟩
  have := Int.natAbs_ediv_le_natAbs (b * b - d) (4 * (a : Int))
  unfold cOf
  omega
theorem form_disc {d : Int} {a : Nat} {b : Int} (a0 : 0 < a) (h : (b * b - d) % (4 * (a : Int)) = 0) : disc ((a : Int), b, cOf d a b) = d := by
  have := Int.mul_ediv_add_emod (b * b - d) (4 * (a : Int))
  rw [h] at this
  show b * b - 4 * (a : Int) * ((b * b - d) / (4 * (a : Int))) = d
  omega
theorem ok_all_two : ∀ ds R, sp_all_two ds R → rd_all_two (fnE R) (startE 5 ds) := by
  intro ds R h
  unfold sp_all_two at h
  split at h
  · rename_i d
    obtain ⟨⟨d0, hd⟩, h⟩ := h
    have hsz : 16100000 ≤ sizeLine := by decide
    have hp62 : (10000 : Int) < 2 ^ 62 := by decide
    have hm62 : -(2 : Int) ^ 62 ≤ -10000 := by decide
    have hlen := allF_len d 2000 (by omega) 2000
    have hfull : (allF d 1).length ≤ 8000000 := by
      have := allF_len d 2000 (by omega) ((-d).toNat + 1 - 1) 1 rfl
      have h2 : ((-d).toNat + 1 - 1) * (2 * 2000) ≤ 2000 * (2 * 2000) := Nat.mul_le_mul_right _ (by omega)
      omega
    unfold rd_all_two
    walk_at "dd"
    refine while_by (fun (s : List Form × Nat × Sl × Sl) => [.val (.int d), .own (s.1.map formD), .val (.int s.2.1), s.2.2.1, s.2.2.2]) (fun s => s.1 ++ allF d s.2.1 = allF d 1 ∧ 0 < s.2.1 ∧ s.2.1 ≤ 2001) (fun s => (-d).toNat + 1 - s.2.1) ([], 1, .un, .un) rfl ⟨rfl, Nat.one_pos, (by decide : 1 ≤ 2001)⟩ ?_
    rintro ⟨fs, a, u3, u4⟩ ⟨hf, a0, a2⟩ bk
    simp only at hf a0 a2
    have turn : 3 * (a : Int) * a ≤ -d → rd_all_two_b2 { nx := fun en' => ∃ a' : List Form × Nat × Sl × Sl, en' = [.val (.int d), .own (a'.1.map formD), .val (.int a'.2.1), a'.2.2.1, a'.2.2.2] ∧ (a'.1 ++ allF d a'.2.1 = allF d 1 ∧ 0 < a'.2.1 ∧ a'.2.1 ≤ 2001) ∧ (-d).toNat + 1 - a'.2.1 < (-d).toNat + 1 - a, rt := R, bk := bk, ct := fun en' => ∃ a' : List Form × Nat × Sl × Sl, en' = [.val (.int d), .own (a'.1.map formD), .val (.int a'.2.1), a'.2.2.1, a'.2.2.2] ∧ (a'.1 ++ allF d a'.2.1 = allF d 1 ∧ 0 < a'.2.1 ∧ a'.2.1 ≤ 2001) ∧ (-d).toNat + 1 - a'.2.1 < (-d).toNat + 1 - a } [.val (.int d), .own (fs.map formD), .val (.int a), u3, u4] := fun h3 => by
      have ha := sq_lt h3
      rw [allF_more h3] at hf
      have hl2 := congrArg List.length hf
      rw [List.length_append, List.length_append] at hl2
      unfold rd_all_two_b2
      walk_at "dd"
      refine ⟨by omega, ?_⟩
      rw [show (a : Int) + 1 - (-(a : Int) + 1) = ((2 * a : Nat) : Int) by omega, Int.toNat_natCast]
      refine for_by (fun (s : List Form × Sl × Sl) => [.val (.int d), .own (s.1.map formD), .val (.int a), s.2.1, s.2.2]) (fun t s => s.1 = fs ++ rowF d a ((bsOf a).take t)) (fs, u3, u4) rfl (by show fs = fs ++ []; rw [List.append_nil]) ?_ ?_
      · rintro t e he ⟨gs, v3, v4⟩ hg bk2
        simp only at hg
        obtain ⟨ht, rfl⟩ := rangeD_get he
        have et := bsOf_take ht
        rw [show -(a : Int) + 1 + (t : Int) = -(a : Int) + 1 + (t : Int) from rfl]
        generalize hb : -(a : Int) + 1 + (t : Int) = b at *
        have hba : b.natAbs ≤ a := by omega
        obtain ⟨q1, q2, q3⟩ := form_bound hd h3 hba a0
        have hs : 10000000 ≤ 2 ^ 25 := by decide
        have mono : ∀ x : Form, okF d a b = true → (gs ++ [x]).length ≤ 8000001 := fun x hx => by
          have h1 : (rowF d a ((bsOf a).take t)).length ≤ (rowF d a (bsOf a)).length := by
            unfold rowF
            rw [List.length_map, List.length_map]
            exact (List.Sublist.filter _ (List.take_sublist t _)).length_le
          rw [List.length_append, hg, List.length_append]
          simp only [List.length_cons, List.length_nil]
          omega
        have done : ∀ (hk : okF d a b = false) (w4 : Sl), ∃ a' : List Form × Sl × Sl, [Sl.val (.int d), .own (gs.map formD), .val (.int a), .val (.int b), w4] = [Sl.val (.int d), .own (a'.1.map formD), .val (.int a), a'.2.1, a'.2.2] ∧ a'.1 = fs ++ rowF d a ((bsOf a).take (t + 1)) := fun hk w4 => by
          refine ⟨(gs, _, _), rfl, ?_⟩
          rw [et, rowF_snoc, hk, hg]
          simp
        unfold rd_all_two_b1
        walk_at "dd"
        rw [fmod_pos _ (show (0 : Int) < 4 * (a : Int) by omega)]
        have a1 : (4 * (a : Int)).natAbs < 2 ^ 25 := by omega
        refine ⟨mulOk (n := 25) (m := 25) (by omega) (by omega) (by decide), mulOk (x := 4) (n := 3) (m := 25) (by decide) (by omega) (by decide), by omega, fun z => ?_, fun z => done ?_ _⟩
        · refine ⟨mulOk (n := 25) (m := 25) (by omega) (by omega) (by decide), mulOk (x := 4) (n := 3) (m := 25) (by decide) (by omega) (by decide), divOk (n := 25) (by omega) (by omega) (by decide), then_intro ?_⟩
          rw [fdiv_pos _ (show (0 : Int) < 4 * (a : Int) by omega)]
          rw [show (b * b - d) / (4 * (a : Int)) = cOf d a b from rfl]
          have hdc := form_disc a0 z
          have hz : decide ((b * b - d) % (4 * (a : Int)) = 0) = true := decide_eq_true z
          generalize hcc : cOf d a b = c at *
          walk_at "dd"
          refine ⟨[(a : Int), b, c], rfl, ?_⟩
          have eg : gcdL [(a : Int), b, c] = Nat.gcd (Int.gcd a b) c.natAbs := by
            show Nat.gcd (Nat.gcd (Nat.gcd 0 (a : Int).natAbs) b.natAbs) c.natAbs = _
            rw [Nat.gcd_zero_left]
            rfl
          rw [eg]
          walk_at "dd"
          have hok : okF d a b = (decide (Red ((a : Int), b, c)) && decide (Nat.gcd (Int.gcd a b) c.natAbs = 1)) := by
            unfold okF
            rw [hz, hcc, Bool.true_and]
          refine ⟨fun eg => ⟨⟨by omega, by rw [hdc]; exact d0, 25, by decide, by omega, by omega, by omega⟩, fun g e1 e2 e3 => ⟨⟨shaped_form g, shaped_form ((a : Int), b, c)⟩, ?_⟩⟩, fun eg => done ?_ _⟩
          · rw [show PyData.tuple [.int a, .int b, .int c] = formD ((a : Int), b, c) from rfl, eqv_form]
            have hgc : Nat.gcd (Int.gcd a b) c.natAbs = 1 := by omega
            rw [decide_eq_true hgc, Bool.and_true] at hok
            by_cases r : Red ((a : Int), b, c)
            · rw [e3 r, decide_eq_true rfl]
              rw [decide_eq_true r] at hok
              have hm := mono ((a : Int), b, c) hok
              rw [List.length_append, List.length_singleton] at hm
              show _ ∧ _
              refine ⟨by rw [List.length_map]; omega, (gs ++ [((a : Int), b, c)], _, _), by rw [List.map_append]; rfl, ?_⟩
              rw [et, rowF_snoc, hok, if_pos rfl, hg, List.append_assoc, hcc]
            · rw [decide_eq_false r] at hok
              rw [decide_eq_false (fun z => r (by rw [← z]; exact e2))]
              exact done hok _
          · have hgn : ¬ Nat.gcd (Int.gcd a b) c.natAbs = 1 := fun w => eg (by omega)
            rw [hok, decide_eq_false hgn, Bool.and_false]
        · unfold okF
          rw [decide_eq_false z]
          rfl
      · rintro ⟨gs, v3, v4⟩ hg
        rw [rangeD_length] at hg
        simp only at hg
        walk_at "dd"
        rw [List.take_of_length_le (by rw [bsOf_len]; omega)] at hg
        refine ⟨(gs, a + 1, _, _), rfl, ⟨?_, by show 0 < a + 1; omega, by show a + 1 ≤ 2001; omega⟩, by show (-d).toNat + 1 - (a + 1) < _; omega⟩
        show gs ++ allF d (a + 1) = _
        rw [hg, List.append_assoc, hf]
    have stop : ¬ 3 * (a : Int) * a ≤ -d → fs = allF d 1 := fun h3 => by
      rw [allF_stop h3, List.append_nil] at hf
      exact hf
    walk_at "dd"
    refine ⟨mulOk (x := 3) (n := 3) (m := 25) (by decide) ?_ (by decide), mulOk (n := 28) (m := 25) ?_ ?_ (by decide), turn, fun z => ?_⟩
    · omega
    · exact bits_mul (x := 3) (n := 3) (m := 25) (by decide) (by omega)
    · omega
    · have := stop z
      subst this
      walk_at "dd"
      refine ⟨(allF d 1).map formI, 3, by rw [List.map_map]; rfl, by decide, fun n hn => by obtain ⟨f, _, rfl⟩ := List.mem_map.mp hn; rfl, fun ms h1 h2 => ?_⟩
      walk_at "dd"
      exact h ms h1 h2
  · exact h.elim
theorem spx_all_two {d : Int} {R : D → Prop} : sp_all_two [.int d] R = ((d < 0 ∧ d.natAbs ≤ 2000) ∧ ∀ ms : List (List Int), ms.Perm ((allF d 1).map formI) → ms.Pairwise (fun x y => lexI y x = false) → R (.tuple (ms.map tupD))) := rfl
local macro_rules | `(tactic| walk_at "d1") => `(tactic| try simp only [dSeq, dSkip, dPass, dRet, dRetN, dDrop, dCond, dAsg, gNm, gTp, dOwn, dOwnL, dPar, dAug, dApp, dExt, dFrz, dFor, dLc, dBreak, dCont, dVar, dC, dOp, dT, dIsi, dNeg, dNot, dTNot, dAnd, dOr, dTAnd, dTOr, dIf, dCh, dNil, dCons, dTup, dLst, dIxO, dB, dCall, dCallW, dItems, dRng1, dRng2, dYes, fnE, startE, startW, startS, dLenO, dLenS, dIxS, dSl, dPt, dNo, wipeE, addD_int, addD_str, addD_tup, addD_lst, subD_int, mulD_int, mulD_tup, mulD_lst, fdivD_int, modD_int, powD_int, shlD_int, shrD_int, andD_int, ltD_int, leD_int, gtD_int, geD_int, eqD_ap, neD_ap, isD_ap, isNotD_ap, isNon_none, isNon_int, isNon_bool, isNon_str, isNon_tup, isNon_lst, isInt_none, isInt_int, isInt_bool, isInt_str, isInt_tup, isInt_lst, isBool_none, isBool_int, isBool_bool, isBool_str, isBool_tup, isBool_lst, isStr_none, isStr_int, isStr_bool, isStr_str, isStr_tup, isStr_lst, isTup_none, isTup_int, isTup_bool, isTup_str, isTup_tup, isTup_lst, isLst_lst, Cnd_true, Cnd_false, Cnd_not, Cnd_dec, asB_bool, forall_const, true_implies, false_implies, implies_true, decide_true, decide_false, Classical.not_not, negD_int, notD_bool, onVal_val, onOwn_own, onDic_dic, onScr_scr, onWv_wv, onInt_int, onTup_tup, onLst_lst, onItems_lst, onItems_tup, frz1_own, frz1_val, frz1_un, ixD_lst, ixD_tup, ixL_int, optD_some, optI_some, absD_int, intD_int, intD_bool, lenD_lst, lenD_tup, lenD_str, tupleD_lst, tupleD_tup, listD_lst, listD_tup, min2D_int, max2D_int, sumD_ints, allD_bls, anyD_bls, slD_lst, slD_tup, slD_str, gNl_nil, gCs_cons, par2_two, seq1_lst, seq1_tup, rng1D_int, rng2D_int, gt_z, gt_s, sp_next_int, set_z, set_s, List.map_cons, List.map_nil, List.length_cons, List.length_nil, List.cons_append, List.nil_append, List.replicate, Nat.reduceAdd, Nat.reduceSub, Nat.zero_add, shaped_int, shaped_bool, shaped_none, shaped_listI, shaped_tupI, shaped_nilL, shaped_nilT, eqv_int, eqv_bool, eqv_str, eqv_none, eqv_list_nil, List.isEmpty_nil, List.isEmpty_cons, Bool.true_eq_false, Bool.false_eq_true, decide_eq_true_eq, and_self, true_and, and_true, not_dec, Bool.not_eq_true', decide_eq_false_iff_not, atI_0, atI_1, atI_2, ite_true, ite_false, if_true, if_false, reduceIte, Bool.not_true, Bool.not_false, not_true_eq_false, not_false_eq_true, List.set_cons_zero, List.set_cons_succ, dPar3, dRev, par3_three, sortedD_ints, revD_tup, two_nat, one_nat, three_nat, dCh3, dOwnC, dPutPar, putPar_two, dZip2, zip2D_lst, zip2D_tup, dPut, isBD_bl, isNotBD_bl, dNewO, dPutO, dSortedO, putKD_int, dPar3O, dParO2, par3O_two, parO2_one, minLD_lst, dKeysW, rdPairs_nil, rdPairs_cons, onPair_ii, revD_lst, spx_common, spx_least_two, spx_all_two, spx_law_common_v1])
local macro_rules | `(tactic| walk_at "dd") => `(tactic| (walk_at "d1"; repeat (with_reducible (refine then_intro ?_); walk_at "d1")))
def rd_law_all_b1 : DTS :=
  (dCond (dT (dOp eqD (dOp modD (dB intD (dCons (dOp subD (dOp mulD (dVar 3) (dVar 3)) (dVar 0)) dNil)) (dOp mulD (dC (.int 4)) (dVar 2))) (dC (.int 0)))) (dSeq (dAsg (dOp fdivD (dOp subD (dOp mulD (dVar 3) (dVar 3)) (dVar 0)) (dOp mulD (dC (.int 4)) (dVar 2))) (gNm 4)) (dCond (dTAnd (dT (dOp geD (dVar 4) (dVar 2))) (dTAnd (dTOr (dT (dOp geD (dVar 3) (dC (.int 0)))) (dT (dOp neD (dVar 2) (dVar 4)))) (dT (dOp eqD (dCall sp_law_common_v1 (dCons (dCall sp_law_common_v1 (dCons (dVar 2) (dCons (dVar 3) dNil))) (dCons (dVar 4) dNil))) (dC (.int 1)))))) (dApp 1 (dTup (dCons (dVar 2) (dCons (dVar 3) (dCons (dVar 4) dNil))))) dSkip)) dSkip)
def rd_law_all_b2 : DTS :=
  (dSeq (dFor (dRng2 (dCons (dOp addD (dNeg (dVar 2)) (dC (.int 1))) (dCons (dOp addD (dVar 2) (dC (.int 1))) dNil))) (gNm 3) rd_law_all_b1) (dAug 2 (fun i j => i + j) (dC (.int 1))))
def rd_law_all : DTS :=
  (dSeq (dOwn 1 dNil) (dSeq (dAsg (dC (.int 1)) (gNm 2)) (dSeq (dWhile (dT (dOp leD (dOp mulD (dOp mulD (dC (.int 3)) (dVar 2)) (dVar 2)) (dNeg (dVar 0)))) rd_law_all_b2) (dFrz 1 (dRet (dB sortedTD (dCons (dVar 1) dNil)))))))
def sp_law_all : Lay.Spec := fun ds R => match ds with
  | [.int d] => (d < 0 ∧ d.natAbs ≤ 2000) ∧ ∀ ms : List (List Int), ms.Perm ((allF d 1).map formI) → ms.Pairwise (fun x y => lexI y x = false) → R (.list (ms.map tupD))
  | _ => False
theorem ok_law_all : ∀ ds R, sp_law_all ds R → rd_law_all (fnE R) (startE 5 ds) := by
  intro ds R h
  unfold sp_law_all at h
  split at h
  · rename_i d
    obtain ⟨⟨d0, hd⟩, h⟩ := h
    have hsz : 16100000 ≤ sizeLine := by decide
    have hp62 : (10000 : Int) < 2 ^ 62 := by decide
    have hm62 : -(2 : Int) ^ 62 ≤ -10000 := by decide
    have hlen := allF_len d 2000 (by omega) 2000
    have hfull : (allF d 1).length ≤ 8000000 := by
      have := allF_len d 2000 (by omega) ((-d).toNat + 1 - 1) 1 rfl
      have h2 : ((-d).toNat + 1 - 1) * (2 * 2000) ≤ 2000 * (2 * 2000) := Nat.mul_le_mul_right _ (by omega)
      omega
    unfold rd_law_all
    walk_at "dd"
    refine while_by (fun (s : List Form × Nat × Sl × Sl) => [.val (.int d), .own (s.1.map formD), .val (.int s.2.1), s.2.2.1, s.2.2.2]) (fun s => s.1 ++ allF d s.2.1 = allF d 1 ∧ 0 < s.2.1 ∧ s.2.1 ≤ 2001) (fun s => (-d).toNat + 1 - s.2.1) ([], 1, .un, .un) rfl ⟨rfl, Nat.one_pos, (by decide : 1 ≤ 2001)⟩ ?_
    rintro ⟨fs, a, u3, u4⟩ ⟨hf, a0, a2⟩ bk
    simp only at hf a0 a2
    have turn : 3 * (a : Int) * a ≤ -d → rd_law_all_b2 { nx := fun en' => ∃ a' : List Form × Nat × Sl × Sl, en' = [.val (.int d), .own (a'.1.map formD), .val (.int a'.2.1), a'.2.2.1, a'.2.2.2] ∧ (a'.1 ++ allF d a'.2.1 = allF d 1 ∧ 0 < a'.2.1 ∧ a'.2.1 ≤ 2001) ∧ (-d).toNat + 1 - a'.2.1 < (-d).toNat + 1 - a, rt := R, bk := bk, ct := fun en' => ∃ a' : List Form × Nat × Sl × Sl, en' = [.val (.int d), .own (a'.1.map formD), .val (.int a'.2.1), a'.2.2.1, a'.2.2.2] ∧ (a'.1 ++ allF d a'.2.1 = allF d 1 ∧ 0 < a'.2.1 ∧ a'.2.1 ≤ 2001) ∧ (-d).toNat + 1 - a'.2.1 < (-d).toNat + 1 - a } [.val (.int d), .own (fs.map formD), .val (.int a), u3, u4] := fun h3 => by
      have ha := sq_lt h3
      rw [allF_more h3] at hf
      have hl2 := congrArg List.length hf
      rw [List.length_append, List.length_append] at hl2
      unfold rd_law_all_b2
      walk_at "dd"
      refine ⟨by omega, ?_⟩
      rw [show (a : Int) + 1 - (-(a : Int) + 1) = ((2 * a : Nat) : Int) by omega, Int.toNat_natCast]
      refine for_by (fun (s : List Form × Sl × Sl) => [.val (.int d), .own (s.1.map formD), .val (.int a), s.2.1, s.2.2]) (fun t s => s.1 = fs ++ rowF d a ((bsOf a).take t)) (fs, u3, u4) rfl (by show fs = fs ++ []; rw [List.append_nil]) ?_ ?_
      · rintro t e he ⟨gs, v3, v4⟩ hg bk2
        simp only at hg
        obtain ⟨ht, rfl⟩ := rangeD_get he
        have et := bsOf_take ht
        rw [show -(a : Int) + 1 + (t : Int) = -(a : Int) + 1 + (t : Int) from rfl]
        generalize hb : -(a : Int) + 1 + (t : Int) = b at *
        have hba : b.natAbs ≤ a := by omega
        obtain ⟨q1, q2, q3⟩ := form_bound hd h3 hba a0
        have hs : 10000000 ≤ 2 ^ 25 := by decide
        have mono : ∀ x : Form, okF d a b = true → (gs ++ [x]).length ≤ 8000001 := fun x hx => by
          have h1 : (rowF d a ((bsOf a).take t)).length ≤ (rowF d a (bsOf a)).length := by
            unfold rowF
            rw [List.length_map, List.length_map]
            exact (List.Sublist.filter _ (List.take_sublist t _)).length_le
          rw [List.length_append, hg, List.length_append]
          simp only [List.length_cons, List.length_nil]
          omega
        have done : ∀ (hk : okF d a b = false) (w4 : Sl), ∃ a' : List Form × Sl × Sl, [Sl.val (.int d), .own (gs.map formD), .val (.int a), .val (.int b), w4] = [Sl.val (.int d), .own (a'.1.map formD), .val (.int a), a'.2.1, a'.2.2] ∧ a'.1 = fs ++ rowF d a ((bsOf a).take (t + 1)) := fun hk w4 => by
          refine ⟨(gs, _, _), rfl, ?_⟩
          rw [et, rowF_snoc, hk, hg]
          simp
        unfold rd_law_all_b1
        walk_at "dd"
        rw [fmod_pos _ (show (0 : Int) < 4 * (a : Int) by omega)]
        have a1 : (4 * (a : Int)).natAbs < 2 ^ 25 := by omega
        refine ⟨mulOk (n := 25) (m := 25) (by omega) (by omega) (by decide), mulOk (x := 4) (n := 3) (m := 25) (by decide) (by omega) (by decide), by omega, fun z => ?_, fun z => done ?_ _⟩
        · refine ⟨mulOk (n := 25) (m := 25) (by omega) (by omega) (by decide), mulOk (x := 4) (n := 3) (m := 25) (by decide) (by omega) (by decide), divOk (n := 25) (by omega) (by omega) (by decide), then_intro ?_⟩
          rw [fdiv_pos _ (show (0 : Int) < 4 * (a : Int) by omega)]
          rw [show (b * b - d) / (4 * (a : Int)) = cOf d a b from rfl]
          have hdc := form_disc a0 z
          have hz : decide ((b * b - d) % (4 * (a : Int)) = 0) = true := decide_eq_true z
          generalize hcc : cOf d a b = c at *
          walk_at "dd"
          have hok : okF d a b = (decide (Red ((a : Int), b, c)) && decide (Nat.gcd (Int.gcd a b) c.natAbs = 1)) := by
            unfold okF
            rw [hz, hcc, Bool.true_and]
          have eg2 : Int.gcd ((Int.gcd (a : Int) b : Nat) : Int) c = Nat.gcd (Int.gcd a b) c.natAbs := rfl
          rw [eg2]
          have plus : Red ((a : Int), b, c) → ((Nat.gcd (Int.gcd a b) c.natAbs : Nat) : Int) = 1 → (gs.map formD).length < sizeLine ∧ ∃ a' : List Form × Sl × Sl, [Sl.val (.int d), Sl.own (gs.map formD ++ [.tuple [.int a, .int b, .int c]]), Sl.val (.int a), Sl.val (.int b), Sl.val (.int c)] = [Sl.val (.int d), .own (a'.1.map formD), .val (.int a), a'.2.1, a'.2.2] ∧ a'.1 = fs ++ rowF d a ((bsOf a).take (t + 1)) := fun r eg => by
            have hgc : Nat.gcd (Int.gcd a b) c.natAbs = 1 := by omega
            rw [decide_eq_true hgc, Bool.and_true, decide_eq_true r] at hok
            have hm := mono ((a : Int), b, c) hok
            rw [List.length_append, List.length_singleton] at hm
            refine ⟨by rw [List.length_map]; omega, (gs ++ [((a : Int), b, c)], _, _), by rw [List.map_append]; rfl, ?_⟩
            rw [et, rowF_snoc, hok, if_pos rfl, hg, List.append_assoc, hcc]
          have noG : ¬ ((Nat.gcd (Int.gcd a b) c.natAbs : Nat) : Int) = 1 → okF d a b = false := fun eg => by
            have hgn : ¬ Nat.gcd (Int.gcd a b) c.natAbs = 1 := fun w => eg (by omega)
            rw [hok, decide_eq_false hgn, Bool.and_false]
          have noR : ¬ Red ((a : Int), b, c) → okF d a b = false := fun r => by
            rw [hok, decide_eq_false r, Bool.false_and]
          refine ⟨fun h1 => ⟨fun h2 => ⟨fun h4 => plus ?_ h4, fun h4 => done (noG h4) _⟩, fun h2 => ⟨fun h4 => done (noR ?_) _, fun h4 => ⟨fun h5 => plus ?_ h5, fun h5 => done (noG h5) _⟩⟩⟩, fun h1 => done (noR ?_) _⟩ <;> unfold Red <;> simp only <;> omega
        · unfold okF
          rw [decide_eq_false z]
          rfl
      · rintro ⟨gs, v3, v4⟩ hg
        rw [rangeD_length] at hg
        simp only at hg
        walk_at "dd"
        rw [List.take_of_length_le (by rw [bsOf_len]; omega)] at hg
        refine ⟨(gs, a + 1, _, _), rfl, ⟨?_, by show 0 < a + 1; omega, by show a + 1 ≤ 2001; omega⟩, by show (-d).toNat + 1 - (a + 1) < _; omega⟩
        show gs ++ allF d (a + 1) = _
        rw [hg, List.append_assoc, hf]
    have stop : ¬ 3 * (a : Int) * a ≤ -d → fs = allF d 1 := fun h3 => by
      rw [allF_stop h3, List.append_nil] at hf
      exact hf
    walk_at "dd"
    refine ⟨mulOk (x := 3) (n := 3) (m := 25) (by decide) ?_ (by decide), mulOk (n := 28) (m := 25) ?_ ?_ (by decide), turn, fun z => ?_⟩
    · omega
    · exact bits_mul (x := 3) (n := 3) (m := 25) (by decide) (by omega)
    · omega
    · have := stop z
      subst this
      walk_at "dd"
      refine ⟨(allF d 1).map formI, 3, by rw [List.map_map]; rfl, by decide, fun n hn => by obtain ⟨f, _, rfl⟩ := List.mem_map.mp hn; rfl, fun ms h1 h2 => ?_⟩
      walk_at "dd"
      exact h ms h1 h2
  · exact h.elim
theorem spx_law_all {d : Int} {R : D → Prop} : sp_law_all [.int d] R = ((d < 0 ∧ d.natAbs ≤ 2000) ∧ ∀ ms : List (List Int), ms.Perm ((allF d 1).map formI) → ms.Pairwise (fun x y => lexI y x = false) → R (.list (ms.map tupD))) := rfl
local macro_rules | `(tactic| walk_at "d1") => `(tactic| try simp only [dSeq, dSkip, dPass, dRet, dRetN, dDrop, dCond, dAsg, gNm, gTp, dOwn, dOwnL, dPar, dAug, dApp, dExt, dFrz, dFor, dLc, dBreak, dCont, dVar, dC, dOp, dT, dIsi, dNeg, dNot, dTNot, dAnd, dOr, dTAnd, dTOr, dIf, dCh, dNil, dCons, dTup, dLst, dIxO, dB, dCall, dCallW, dItems, dRng1, dRng2, dYes, fnE, startE, startW, startS, dLenO, dLenS, dIxS, dSl, dPt, dNo, wipeE, addD_int, addD_str, addD_tup, addD_lst, subD_int, mulD_int, mulD_tup, mulD_lst, fdivD_int, modD_int, powD_int, shlD_int, shrD_int, andD_int, ltD_int, leD_int, gtD_int, geD_int, eqD_ap, neD_ap, isD_ap, isNotD_ap, isNon_none, isNon_int, isNon_bool, isNon_str, isNon_tup, isNon_lst, isInt_none, isInt_int, isInt_bool, isInt_str, isInt_tup, isInt_lst, isBool_none, isBool_int, isBool_bool, isBool_str, isBool_tup, isBool_lst, isStr_none, isStr_int, isStr_bool, isStr_str, isStr_tup, isStr_lst, isTup_none, isTup_int, isTup_bool, isTup_str, isTup_tup, isTup_lst, isLst_lst, Cnd_true, Cnd_false, Cnd_not, Cnd_dec, asB_bool, forall_const, true_implies, false_implies, implies_true, decide_true, decide_false, Classical.not_not, negD_int, notD_bool, onVal_val, onOwn_own, onDic_dic, onScr_scr, onWv_wv, onInt_int, onTup_tup, onLst_lst, onItems_lst, onItems_tup, frz1_own, frz1_val, frz1_un, ixD_lst, ixD_tup, ixL_int, optD_some, optI_some, absD_int, intD_int, intD_bool, lenD_lst, lenD_tup, lenD_str, tupleD_lst, tupleD_tup, listD_lst, listD_tup, min2D_int, max2D_int, sumD_ints, allD_bls, anyD_bls, slD_lst, slD_tup, slD_str, gNl_nil, gCs_cons, par2_two, seq1_lst, seq1_tup, rng1D_int, rng2D_int, gt_z, gt_s, sp_next_int, set_z, set_s, List.map_cons, List.map_nil, List.length_cons, List.length_nil, List.cons_append, List.nil_append, List.replicate, Nat.reduceAdd, Nat.reduceSub, Nat.zero_add, shaped_int, shaped_bool, shaped_none, shaped_listI, shaped_tupI, shaped_nilL, shaped_nilT, eqv_int, eqv_bool, eqv_str, eqv_none, eqv_list_nil, List.isEmpty_nil, List.isEmpty_cons, Bool.true_eq_false, Bool.false_eq_true, decide_eq_true_eq, and_self, true_and, and_true, not_dec, Bool.not_eq_true', decide_eq_false_iff_not, atI_0, atI_1, atI_2, ite_true, ite_false, if_true, if_false, reduceIte, Bool.not_true, Bool.not_false, not_true_eq_false, not_false_eq_true, List.set_cons_zero, List.set_cons_succ, dPar3, dRev, par3_three, sortedD_ints, revD_tup, two_nat, one_nat, three_nat, dCh3, dOwnC, dPutPar, putPar_two, dZip2, zip2D_lst, zip2D_tup, dPut, isBD_bl, isNotBD_bl, dNewO, dPutO, dSortedO, putKD_int, dPar3O, dParO2, par3O_two, parO2_one, minLD_lst, dKeysW, rdPairs_nil, rdPairs_cons, onPair_ii, revD_lst])
local macro_rules | `(tactic| walk_at "dd") => `(tactic| (walk_at "d1"; repeat (with_reducible (refine then_intro ?_); walk_at "d1")))
def rd_law_below_nothing : DTS :=
  (dRet (dOp subD (dOp mulD (dOp ixD (dVar 0) (dC (.int 1))) (dOp ixD (dVar 0) (dC (.int 1)))) (dOp mulD (dOp mulD (dC (.int 4)) (dOp ixD (dVar 0) (dC (.int 0)))) (dOp ixD (dVar 0) (dC (.int 2))))))
def sp_law_below_nothing : Lay.Spec := fun ds R => match ds with
  | [.tuple [.int a, .int b, .int c]] => (∃ k : Nat, k ≤ 100000 ∧ a.natAbs < 2 ^ k ∧ b.natAbs < 2 ^ k ∧ c.natAbs < 2 ^ k) ∧ R (.int (disc (a, b, c)))
  | _ => False
theorem ok_law_below_nothing : ∀ ds R, sp_law_below_nothing ds R → rd_law_below_nothing (fnE R) (startE 1 ds) := by
  intro ds R h
  unfold sp_law_below_nothing at h
  split at h
  · rename_i a b c
    obtain ⟨⟨k, hk, ha, hb, hc⟩, h⟩ := h
    have h2 := bits_mul (x := 4) (n := 3) (by decide) ha
    unfold rd_law_below_nothing
    walk_at "dd"
    exact ⟨mulOk hb hb (by omega), mulOk (x := 4) (n := 3) (by decide) ha (by omega), mulOk h2 hc (by omega), h⟩
  · exact h.elim
theorem spx_law_below_nothing {a b c : Int} {R : D → Prop} : sp_law_below_nothing [.tuple [.int a, .int b, .int c]] R = ((∃ k : Nat, k ≤ 100000 ∧ a.natAbs < 2 ^ k ∧ b.natAbs < 2 ^ k ∧ c.natAbs < 2 ^ k) ∧ R (.int (disc (a, b, c)))) := rfl
local macro_rules | `(tactic| walk_at "d1") => `(tactic| try simp only [dSeq, dSkip, dPass, dRet, dRetN, dDrop, dCond, dAsg, gNm, gTp, dOwn, dOwnL, dPar, dAug, dApp, dExt, dFrz, dFor, dLc, dBreak, dCont, dVar, dC, dOp, dT, dIsi, dNeg, dNot, dTNot, dAnd, dOr, dTAnd, dTOr, dIf, dCh, dNil, dCons, dTup, dLst, dIxO, dB, dCall, dCallW, dItems, dRng1, dRng2, dYes, fnE, startE, startW, startS, dLenO, dLenS, dIxS, dSl, dPt, dNo, wipeE, addD_int, addD_str, addD_tup, addD_lst, subD_int, mulD_int, mulD_tup, mulD_lst, fdivD_int, modD_int, powD_int, shlD_int, shrD_int, andD_int, ltD_int, leD_int, gtD_int, geD_int, eqD_ap, neD_ap, isD_ap, isNotD_ap, isNon_none, isNon_int, isNon_bool, isNon_str, isNon_tup, isNon_lst, isInt_none, isInt_int, isInt_bool, isInt_str, isInt_tup, isInt_lst, isBool_none, isBool_int, isBool_bool, isBool_str, isBool_tup, isBool_lst, isStr_none, isStr_int, isStr_bool, isStr_str, isStr_tup, isStr_lst, isTup_none, isTup_int, isTup_bool, isTup_str, isTup_tup, isTup_lst, isLst_lst, Cnd_true, Cnd_false, Cnd_not, Cnd_dec, asB_bool, forall_const, true_implies, false_implies, implies_true, decide_true, decide_false, Classical.not_not, negD_int, notD_bool, onVal_val, onOwn_own, onDic_dic, onScr_scr, onWv_wv, onInt_int, onTup_tup, onLst_lst, onItems_lst, onItems_tup, frz1_own, frz1_val, frz1_un, ixD_lst, ixD_tup, ixL_int, optD_some, optI_some, absD_int, intD_int, intD_bool, lenD_lst, lenD_tup, lenD_str, tupleD_lst, tupleD_tup, listD_lst, listD_tup, min2D_int, max2D_int, sumD_ints, allD_bls, anyD_bls, slD_lst, slD_tup, slD_str, gNl_nil, gCs_cons, par2_two, seq1_lst, seq1_tup, rng1D_int, rng2D_int, gt_z, gt_s, sp_next_int, set_z, set_s, List.map_cons, List.map_nil, List.length_cons, List.length_nil, List.cons_append, List.nil_append, List.replicate, Nat.reduceAdd, Nat.reduceSub, Nat.zero_add, shaped_int, shaped_bool, shaped_none, shaped_listI, shaped_tupI, shaped_nilL, shaped_nilT, eqv_int, eqv_bool, eqv_str, eqv_none, eqv_list_nil, List.isEmpty_nil, List.isEmpty_cons, Bool.true_eq_false, Bool.false_eq_true, decide_eq_true_eq, and_self, true_and, and_true, not_dec, Bool.not_eq_true', decide_eq_false_iff_not, atI_0, atI_1, atI_2, ite_true, ite_false, if_true, if_false, reduceIte, Bool.not_true, Bool.not_false, not_true_eq_false, not_false_eq_true, List.set_cons_zero, List.set_cons_succ, dPar3, dRev, par3_three, sortedD_ints, revD_tup, two_nat, one_nat, three_nat, dCh3, dOwnC, dPutPar, putPar_two, dZip2, zip2D_lst, zip2D_tup, dPut, isBD_bl, isNotBD_bl, dNewO, dPutO, dSortedO, putKD_int, dPar3O, dParO2, par3O_two, parO2_one, minLD_lst, dKeysW, rdPairs_nil, rdPairs_cons, onPair_ii, revD_lst])
local macro_rules | `(tactic| walk_at "dd") => `(tactic| (walk_at "d1"; repeat (with_reducible (refine then_intro ?_); walk_at "d1")))
/-- the form after a change -/
def act (f : Form) (p q r s : Int) : Form := (f.1 * p * p + f.2.1 * p * r + f.2.2 * r * r, 2 * f.1 * p * q + f.2.1 * (p * s + q * r) + 2 * f.2.2 * r * s, f.1 * q * q + f.2.1 * q * s + f.2.2 * s * s)
def Eqv (f g : Form) : Prop := ∃ p q r s : Int, p * s - q * r = 1 ∧ g = act f p q r s
theorem form_ext {f g : Form} (h1 : f.1 = g.1) (h2 : f.2.1 = g.2.1) (h3 : f.2.2 = g.2.2) : f = g := Prod.ext h1 (Prod.ext h2 h3)
theorem act_one (f : Form) : act f 1 0 0 1 = f := by
  refine form_ext ?_ ?_ ?_ <;> unfold act <;> simp only <;> omega
theorem act_act (f : Form) (p q r s p' q' r' s' : Int) : act (act f p q r s) p' q' r' s' = act f (p * p' + q * r') (p * q' + q * s') (r * p' + s * r') (r * q' + s * s') := by
  refine form_ext ?_ ?_ ?_ <;> unfold act <;> simp only <;> grind
theorem Eqv.refl (f : Form) : Eqv f f := ⟨1, 0, 0, 1, by decide, (act_one f).symm⟩
theorem Eqv.trans {f g h : Form} (h1 : Eqv f g) (h2 : Eqv g h) : Eqv f h := by
  obtain ⟨p, q, r, s, e, rfl⟩ := h1
  obtain ⟨p', q', r', s', e', rfl⟩ := h2
  refine ⟨_, _, _, _, ?_, act_act f p q r s p' q' r' s'⟩
  have : (p * p' + q * r') * (r * q' + s * s') - (p * q' + q * s') * (r * p' + s * r') = (p * s - q * r) * (p' * s' - q' * r') := by grind
  rw [this, e, e']; rfl
theorem act_inv {f : Form} {p q r s : Int} (h : p * s - q * r = 1) : act (act f p q r s) s (-q) (-r) p = f := by
  rw [act_act]
  have e1 : p * s + q * -r = 1 := by rw [Int.mul_neg]; omega
  have e2 : p * -q + q * p = 0 := by grind
  have e3 : r * s + s * -r = 0 := by grind
  have e4 : r * -q + s * p = 1 := by grind
  rw [e1, e2, e3, e4]
  exact act_one f
theorem Eqv.symm {f g : Form} (h : Eqv f g) : Eqv g f := by
  obtain ⟨p, q, r, s, e, rfl⟩ := h
  exact ⟨s, -q, -r, p, by grind, (act_inv e).symm⟩
theorem act_shift (f : Form) (t : Int) : shiftF t f = act f 1 t 0 1 := by
  refine form_ext ?_ ?_ ?_ <;> unfold act shiftF <;> simp only <;> grind
theorem act_swap (f : Form) : swapF f = act f 0 (-1) 1 0 := by
  refine form_ext ?_ ?_ ?_ <;> unfold act swapF <;> simp only <;> grind
theorem FEq.eqv {f g : Form} (h : FEq f g) : Eqv f g := by
  induction h with
  | refl => exact .refl _
  | shift t _ ih => exact ih.trans ⟨1, t, 0, 1, by omega, act_shift _ t⟩
  | swap _ ih => exact ih.trans ⟨0, -1, 1, 0, by omega, act_swap _⟩
theorem disc_act {f : Form} {p q r s : Int} (h : p * s - q * r = 1) : disc (act f p q r s) = disc f := by
  have : disc (act f p q r s) = disc f * ((p * s - q * r) * (p * s - q * r)) := by unfold disc act; simp only; grind
  rw [this, h]; omega
theorem Eqv.disc {f g : Form} (h : Eqv f g) : disc g = disc f := by
  obtain ⟨p, q, r, s, e, rfl⟩ := h
  exact disc_act e
/-- the number of a form -/
def valF (f : Form) (x y : Int) : Int := f.1 * x * x + f.2.1 * x * y + f.2.2 * y * y
theorem val_four (f : Form) (x y : Int) : 4 * f.1 * valF f x y = (2 * f.1 * x + f.2.1 * y) * (2 * f.1 * x + f.2.1 * y) - disc f * (y * y) := by unfold valF disc; grind
theorem sqI_nonneg (x : Int) : 0 ≤ x * x := by
  rcases Int.le_total 0 x with z | z
  · exact Int.mul_nonneg z z
  · exact Int.mul_nonneg_of_nonpos_of_nonpos z z
theorem sqI_pos {x : Int} (h : x ≠ 0) : 0 < x * x := by
  have := sqI_nonneg x
  have := Int.mul_ne_zero h h
  omega
theorem val_pos {f : Form} (h0 : 0 < f.1) (hd : disc f < 0) {x y : Int} (h : ¬ (x = 0 ∧ y = 0)) : 0 < valF f x y := by
  have e := val_four f x y
  have h1 := sqI_nonneg (2 * f.1 * x + f.2.1 * y)
  have h2 : 0 < 4 * f.1 * valF f x y := by
    rw [e]
    by_cases z : y = 0
    · subst z
      have hx : x ≠ 0 := fun z => h ⟨z, rfl⟩
      have := sqI_pos (x := 2 * f.1 * x) (Int.mul_ne_zero (by omega) hx)
      rw [Int.mul_zero, Int.add_zero, Int.mul_zero, Int.mul_zero]
      omega
    · have := Int.mul_neg_of_neg_of_pos hd (sqI_pos z)
      omega
  rcases (show 0 < valF f x y ∨ valF f x y ≤ 0 by omega) with z | z
  · exact z
  · have := Int.mul_nonneg (show 0 ≤ 4 * f.1 by omega) (show 0 ≤ -valF f x y by omega)
    rw [Int.mul_neg] at this
    omega
theorem act_pos {f : Form} (h0 : 0 < f.1) (hd : disc f < 0) {p q r s : Int} (h : p * s - q * r = 1) : 0 < (act f p q r s).1 :=
  val_pos (x := p) (y := r) h0 hd fun ⟨h1, h2⟩ => by rw [h1, h2] at h; omega
theorem Eqv.pos {f g : Form} (h : Eqv f g) (h0 : 0 < f.1) (hd : Lay.disc f < 0) : 0 < g.1 := by
  obtain ⟨p, q, r, s, e, rfl⟩ := h
  exact act_pos h0 hd e
theorem abs_sq_le {a b : Int} (h1 : -a ≤ b) (h2 : b ≤ a) : b * b ≤ a * a := by
  have h := Int.mul_nonneg (show 0 ≤ a - b by omega) (show 0 ≤ a + b by omega)
  have : (a - b) * (a + b) = a * a - b * b := by grind
  omega
/-- at a least form -/
theorem red_disc {f : Form} (h0 : 0 < f.1) (h : Red f) : disc f ≤ -3 * (f.1 * f.1) := by
  obtain ⟨h1, h2, h3, _⟩ := h
  have e1 := abs_sq_le (a := f.1) (b := f.2.1) (by omega) h2
  have e2 := Int.mul_le_mul_of_nonneg_left h3 (show 0 ≤ 4 * f.1 by omega)
  have e3 : 4 * f.1 * f.1 = 4 * (f.1 * f.1) := by grind
  unfold disc
  omega
theorem red_far {f : Form} (h0 : 0 < f.1) (h : Red f) {x y : Int} (hy : 2 ≤ y.natAbs) : 3 * f.1 ≤ valF f x y := by
  have e := val_four f x y
  have h1 := sqI_nonneg (2 * f.1 * x + f.2.1 * y)
  have h2 := red_disc h0 h
  have hyy : 4 ≤ y * y := by
    have := Nat.mul_le_mul hy hy
    have e : (y * y).natAbs = y.natAbs * y.natAbs := Int.natAbs_mul ..
    have := sqI_nonneg y
    omega
  have h3 := Int.mul_le_mul_of_nonneg_right (show 3 * (f.1 * f.1) ≤ -disc f by omega) (show 0 ≤ y * y by omega)
  have h4 := Int.mul_le_mul_of_nonneg_left hyy (show 0 ≤ 3 * (f.1 * f.1) by have := sqI_nonneg f.1; omega)
  have h5 : 4 * f.1 * (3 * f.1) ≤ 4 * f.1 * valF f x y := by
    rw [e]
    have : 4 * f.1 * (3 * f.1) = 3 * (f.1 * f.1) * 4 := by grind
    have : -disc f * (y * y) = -(disc f * (y * y)) := Int.neg_mul ..
    omega
  exact Int.le_of_mul_le_mul_left h5 (by omega)
theorem abs_mul_ge {A B x : Int} (h1 : -A ≤ B) (h2 : B ≤ A) : 0 ≤ A * x * x + B * x := by
  rcases Int.lt_trichotomy x 0 with z | z | z
  · have h3 := Int.mul_nonneg_of_nonpos_of_nonpos (show A * x + B ≤ 0 by
      have := Int.mul_le_mul_of_nonneg_left (show x ≤ -1 by omega) (show 0 ≤ A by omega)
      omega) (show x ≤ 0 by omega)
    have : (A * x + B) * x = A * x * x + B * x := by grind
    omega
  · subst z; simp
  · have h3 := Int.mul_nonneg (show 0 ≤ A * x + B by
      have := Int.mul_le_mul_of_nonneg_left (show 1 ≤ x by omega) (show 0 ≤ A by omega)
      omega) (show 0 ≤ x by omega)
    have : (A * x + B) * x = A * x * x + B * x := by grind
    omega
theorem red_near {f : Form} (h : Red f) {x y : Int} (hy : y = 1 ∨ y = -1) : valF f x y = f.1 * x * x + (f.2.1 * y) * x + f.2.2 ∧ 0 ≤ f.1 * x * x + (f.2.1 * y) * x := by
  obtain ⟨h1, h2, _, _⟩ := h
  refine ⟨?_, ?_⟩
  · unfold valF
    rcases hy with rfl | rfl <;> grind
  · refine abs_mul_ge ?_ ?_ <;> rcases hy with rfl | rfl <;> omega
theorem red_least {f : Form} (h0 : 0 < f.1) (h : Red f) {p q r s : Int} (e : p * s - q * r = 1) : f.1 ≤ valF f p r := by
  by_cases z : r = 0
  · subst z
    have hp : p ≠ 0 := fun z => by rw [z] at e; omega
    have := sqI_pos hp
    have h1 := Int.mul_le_mul_of_nonneg_left (show 1 ≤ p * p by omega) (show 0 ≤ f.1 by omega)
    have : valF f p 0 = f.1 * (p * p) := by unfold valF; grind
    omega
  · by_cases z1 : r = 1 ∨ r = -1
    · have := red_near h (x := p) z1
      have := h.2.2.1
      omega
    · have := red_far h0 h (x := p) (y := r) (by omega)
      omega
theorem unit_mul {p s : Int} (h : p * s = 1) : (p = 1 ∧ s = 1) ∨ (p = -1 ∧ s = -1) := by
  have h1 : p.natAbs * s.natAbs = 1 := by rw [← Int.natAbs_mul, h]; rfl
  have h2 := Nat.eq_one_of_mul_eq_one_right h1
  rcases (show p = 1 ∨ p = -1 by omega) with rfl | rfl
  · left; omega
  · right; omega
theorem small_zero {A B t : Int} (h0 : 0 < A) (h1 : -A < B) (h2 : B ≤ A) (h3 : -A < B + 2 * (A * t)) (h4 : B + 2 * (A * t) ≤ A) : t = 0 := by
  rcases Int.lt_trichotomy t 0 with z | z | z
  · have := Int.mul_le_mul_of_nonneg_left (show t ≤ -1 by omega) (show 0 ≤ A by omega)
    omega
  · exact z
  · have := Int.mul_le_mul_of_nonneg_left (show 1 ≤ t by omega) (show 0 ≤ A by omega)
    omega
/-- least forms that are alike are one -/
theorem red_unique {f g : Form} (h0 : 0 < f.1) (hd : disc f < 0) (h : Eqv f g) (hf : Red f) (hg : Red g) : f = g := by
  have g0 := h.pos h0 hd
  have ed := h.disc
  obtain ⟨p, q, r, s, e, hg'⟩ := h
  have eg1 : g.1 = valF f p r := by rw [hg']; rfl
  have le1 := red_least h0 hf e
  have le2 : g.1 ≤ f.1 := by
    have e2 : s * p - (-q) * (-r) = 1 := by grind
    have := red_least g0 hg e2
    have e3 : valF g s (-r) = f.1 := by
      have := congrArg (·.1) (act_inv (f := f) e)
      rw [← hg'] at this
      exact this
    omega
  have ea : g.1 = f.1 := by omega
  have eg2 : g.2.1 = 2 * f.1 * p * q + f.2.1 * (p * s + q * r) + 2 * f.2.2 * r * s := by rw [hg']; rfl
  have same : g.2.1 = f.2.1 → f = g := fun eb => by
    refine form_ext ea.symm eb.symm ?_
    unfold disc at ed
    rw [ea, eb] at ed
    have : 4 * f.1 * g.2.2 = 4 * f.1 * f.2.2 := by omega
    exact (Int.eq_of_mul_eq_mul_left (by omega) this).symm
  obtain ⟨f1, f2, f3, f4⟩ := hf
  obtain ⟨g1, g2, g3, g4⟩ := hg
  by_cases z : r = 0
  · subst z
    rw [Int.mul_zero, Int.sub_zero] at e
    have eb : g.2.1 = f.2.1 + 2 * (f.1 * (p * q)) := by
      rw [eg2, e]
      grind
    have := small_zero (t := p * q) h0 f1 f2 (by omega) (by omega)
    rw [this] at eb
    exact same (by omega)
  · by_cases z1 : r = 1 ∨ r = -1
    · obtain ⟨k1, k2⟩ := red_near (x := p) ⟨f1, f2, f3, f4⟩ z1
      have ec : f.2.2 = f.1 := by omega
      have kz : f.1 * p * p + f.2.1 * r * p = 0 := by omega
      have b0 : 0 ≤ f.2.1 := by
        rcases (show f.2.1 < 0 ∨ 0 ≤ f.2.1 by omega) with z | z
        · exact absurd ⟨ec.symm, z⟩ f4
        · exact z
      unfold disc at ed
      rw [ea, ec] at ed
      have h3 := Int.mul_le_mul_of_nonneg_left g3 (show 0 ≤ 4 * f.1 by omega)
      rw [ea] at h3
      by_cases zb : f.2.1 = f.1
      · rw [zb] at ed
        have e4 : 4 * f.1 * f.1 = 4 * (f.1 * f.1) := by grind
        have e5 : f.1 * f.1 ≤ g.2.1 * g.2.1 := by omega
        have hb : g.2.1 = f.1 := by
          rcases (show g.2.1 = f.1 ∨ (-f.1 + 1 ≤ g.2.1 ∧ g.2.1 ≤ f.1 - 1) by omega) with z | ⟨z1, z2⟩
          · exact z
          · have := abs_sq_le (a := f.1 - 1) (b := g.2.1) (by omega) (by omega)
            have : (f.1 - 1) * (f.1 - 1) = f.1 * f.1 - 2 * f.1 + 1 := by grind
            omega
        exact same (by omega)
      · have p0 : p = 0 := by
          have e4 : (f.1 * p + f.2.1 * r) * p = 0 := by rw [← kz]; grind
          rcases Int.mul_eq_zero.mp e4 with z | z
          · rcases Int.lt_trichotomy p 0 with w | w | w
            · have := Int.mul_le_mul_of_nonneg_left (show p ≤ -1 by omega) (show 0 ≤ f.1 by omega)
              rcases z1 with rfl | rfl <;> omega
            · exact w
            · have := Int.mul_le_mul_of_nonneg_left (show 1 ≤ p by omega) (show 0 ≤ f.1 by omega)
              rcases z1 with rfl | rfl <;> omega
          · exact z
        subst p0
        have eqr : q * r = -1 := by omega
        have eb : g.2.1 = -f.2.1 + 2 * (f.1 * (r * s)) := by
          rw [eg2, ec, Int.zero_mul, Int.zero_add, eqr]
          grind
        have t0 := small_zero (t := r * s) (B := -f.2.1) h0 (by omega) (by omega) (by omega) (by omega)
        rw [t0] at eb
        have eb' : g.2.1 = -f.2.1 := by omega
        rw [eb', Int.neg_mul_neg] at ed
        have ec' : g.2.2 = f.1 := Int.eq_of_mul_eq_mul_left (show 4 * f.1 ≠ 0 by omega) (by omega)
        have : ¬ g.2.1 < 0 := fun z => g4 ⟨by omega, z⟩
        exact same (by omega)
    · have := red_far (x := p) (y := r) h0 ⟨f1, f2, f3, f4⟩ (by omega)
      omega
local macro_rules | `(tactic| walk_at "d1") => `(tactic| try simp only [dSeq, dSkip, dPass, dRet, dRetN, dDrop, dCond, dAsg, gNm, gTp, dOwn, dOwnL, dPar, dAug, dApp, dExt, dFrz, dFor, dLc, dBreak, dCont, dVar, dC, dOp, dT, dIsi, dNeg, dNot, dTNot, dAnd, dOr, dTAnd, dTOr, dIf, dCh, dNil, dCons, dTup, dLst, dIxO, dB, dCall, dCallW, dItems, dRng1, dRng2, dYes, fnE, startE, startW, startS, dLenO, dLenS, dIxS, dSl, dPt, dNo, wipeE, addD_int, addD_str, addD_tup, addD_lst, subD_int, mulD_int, mulD_tup, mulD_lst, fdivD_int, modD_int, powD_int, shlD_int, shrD_int, andD_int, ltD_int, leD_int, gtD_int, geD_int, eqD_ap, neD_ap, isD_ap, isNotD_ap, isNon_none, isNon_int, isNon_bool, isNon_str, isNon_tup, isNon_lst, isInt_none, isInt_int, isInt_bool, isInt_str, isInt_tup, isInt_lst, isBool_none, isBool_int, isBool_bool, isBool_str, isBool_tup, isBool_lst, isStr_none, isStr_int, isStr_bool, isStr_str, isStr_tup, isStr_lst, isTup_none, isTup_int, isTup_bool, isTup_str, isTup_tup, isTup_lst, isLst_lst, Cnd_true, Cnd_false, Cnd_not, Cnd_dec, asB_bool, forall_const, true_implies, false_implies, implies_true, decide_true, decide_false, Classical.not_not, negD_int, notD_bool, onVal_val, onOwn_own, onDic_dic, onScr_scr, onWv_wv, onInt_int, onTup_tup, onLst_lst, onItems_lst, onItems_tup, frz1_own, frz1_val, frz1_un, ixD_lst, ixD_tup, ixL_int, optD_some, optI_some, absD_int, intD_int, intD_bool, lenD_lst, lenD_tup, lenD_str, tupleD_lst, tupleD_tup, listD_lst, listD_tup, min2D_int, max2D_int, sumD_ints, allD_bls, anyD_bls, slD_lst, slD_tup, slD_str, gNl_nil, gCs_cons, par2_two, seq1_lst, seq1_tup, rng1D_int, rng2D_int, gt_z, gt_s, sp_next_int, set_z, set_s, List.map_cons, List.map_nil, List.length_cons, List.length_nil, List.cons_append, List.nil_append, List.replicate, Nat.reduceAdd, Nat.reduceSub, Nat.zero_add, shaped_int, shaped_bool, shaped_none, shaped_listI, shaped_tupI, shaped_nilL, shaped_nilT, eqv_int, eqv_bool, eqv_str, eqv_none, eqv_list_nil, List.isEmpty_nil, List.isEmpty_cons, Bool.true_eq_false, Bool.false_eq_true, decide_eq_true_eq, and_self, true_and, and_true, not_dec, Bool.not_eq_true', decide_eq_false_iff_not, atI_0, atI_1, atI_2, ite_true, ite_false, if_true, if_false, reduceIte, Bool.not_true, Bool.not_false, not_true_eq_false, not_false_eq_true, List.set_cons_zero, List.set_cons_succ, dPar3, dRev, par3_three, sortedD_ints, revD_tup, two_nat, one_nat, three_nat, dCh3, dOwnC, dPutPar, putPar_two, dZip2, zip2D_lst, zip2D_tup, dPut, isBD_bl, isNotBD_bl, dNewO, dPutO, dSortedO, putKD_int, dPar3O, dParO2, par3O_two, parO2_one, minLD_lst, dKeysW, rdPairs_nil, rdPairs_cons, onPair_ii, revD_lst])
local macro_rules | `(tactic| walk_at "dd") => `(tactic| (walk_at "d1"; repeat (with_reducible (refine then_intro ?_); walk_at "d1")))
def rd_size_of_two : DTS :=
  (dSeq (dAsg (dVar 0) (gTp 3 (gCs (gNm 1) (gCs (gNm 2) (gCs (gNm 3) gNl))))) (dRet (dOp subD (dOp mulD (dVar 2) (dVar 2)) (dOp mulD (dOp mulD (dC (.int 4)) (dVar 1)) (dVar 3)))))
def SmF (k : Nat) (f : Form) : Prop := f.1.natAbs < 2 ^ k ∧ f.2.1.natAbs < 2 ^ k ∧ f.2.2.natAbs < 2 ^ k
def sp_size_of_two : Lay.Spec := fun ds R => match ds with
  | [.tuple [.int a, .int b, .int c]] => (∃ k : Nat, k ≤ 1000 ∧ SmF k (a, b, c)) ∧ R (.int (disc (a, b, c)))
  | _ => False
theorem spx_size_of_two {a b c : Int} {R : D → Prop} : sp_size_of_two [.tuple [.int a, .int b, .int c]] R = ((∃ k : Nat, k ≤ 1000 ∧ SmF k (a, b, c)) ∧ R (.int (disc (a, b, c)))) := rfl
theorem ok_size_of_two : ∀ ds R, sp_size_of_two ds R → rd_size_of_two (fnE R) (startE 4 ds) := by
  intro ds R h
  unfold sp_size_of_two at h
  split at h
  · rename_i a b c
    obtain ⟨⟨k, hk, ab, bb, cb⟩, h⟩ := h
    unfold rd_size_of_two
    walk_at "dd"
    have b4 := bits_mul (x := 4) (n := 3) (by decide) ab
    exact ⟨mulOk bb bb (by omega), mulOk (x := 4) (n := 3) (by decide) ab (by omega), mulOk b4 cb (by omega), h⟩
  · exact h.elim
local macro_rules | `(tactic| walk_at "d1") => `(tactic| try simp only [dSeq, dSkip, dPass, dRet, dRetN, dDrop, dCond, dAsg, gNm, gTp, dOwn, dOwnL, dPar, dAug, dApp, dExt, dFrz, dFor, dLc, dBreak, dCont, dVar, dC, dOp, dT, dIsi, dNeg, dNot, dTNot, dAnd, dOr, dTAnd, dTOr, dIf, dCh, dNil, dCons, dTup, dLst, dIxO, dB, dCall, dCallW, dItems, dRng1, dRng2, dYes, fnE, startE, startW, startS, dLenO, dLenS, dIxS, dSl, dPt, dNo, wipeE, addD_int, addD_str, addD_tup, addD_lst, subD_int, mulD_int, mulD_tup, mulD_lst, fdivD_int, modD_int, powD_int, shlD_int, shrD_int, andD_int, ltD_int, leD_int, gtD_int, geD_int, eqD_ap, neD_ap, isD_ap, isNotD_ap, isNon_none, isNon_int, isNon_bool, isNon_str, isNon_tup, isNon_lst, isInt_none, isInt_int, isInt_bool, isInt_str, isInt_tup, isInt_lst, isBool_none, isBool_int, isBool_bool, isBool_str, isBool_tup, isBool_lst, isStr_none, isStr_int, isStr_bool, isStr_str, isStr_tup, isStr_lst, isTup_none, isTup_int, isTup_bool, isTup_str, isTup_tup, isTup_lst, isLst_lst, Cnd_true, Cnd_false, Cnd_not, Cnd_dec, asB_bool, forall_const, true_implies, false_implies, implies_true, decide_true, decide_false, Classical.not_not, negD_int, notD_bool, onVal_val, onOwn_own, onDic_dic, onScr_scr, onWv_wv, onInt_int, onTup_tup, onLst_lst, onItems_lst, onItems_tup, frz1_own, frz1_val, frz1_un, ixD_lst, ixD_tup, ixL_int, optD_some, optI_some, absD_int, intD_int, intD_bool, lenD_lst, lenD_tup, lenD_str, tupleD_lst, tupleD_tup, listD_lst, listD_tup, min2D_int, max2D_int, sumD_ints, allD_bls, anyD_bls, slD_lst, slD_tup, slD_str, gNl_nil, gCs_cons, par2_two, seq1_lst, seq1_tup, rng1D_int, rng2D_int, gt_z, gt_s, sp_next_int, set_z, set_s, List.map_cons, List.map_nil, List.length_cons, List.length_nil, List.cons_append, List.nil_append, List.replicate, Nat.reduceAdd, Nat.reduceSub, Nat.zero_add, shaped_int, shaped_bool, shaped_none, shaped_listI, shaped_tupI, shaped_nilL, shaped_nilT, eqv_int, eqv_bool, eqv_str, eqv_none, eqv_list_nil, List.isEmpty_nil, List.isEmpty_cons, Bool.true_eq_false, Bool.false_eq_true, decide_eq_true_eq, and_self, true_and, and_true, not_dec, Bool.not_eq_true', decide_eq_false_iff_not, atI_0, atI_1, atI_2, ite_true, ite_false, if_true, if_false, reduceIte, Bool.not_true, Bool.not_false, not_true_eq_false, not_false_eq_true, List.set_cons_zero, List.set_cons_succ, dPar3, dRev, par3_three, sortedD_ints, revD_tup, two_nat, one_nat, three_nat, dCh3, dOwnC, dPutPar, putPar_two, dZip2, zip2D_lst, zip2D_tup, dPut, isBD_bl, isNotBD_bl, dNewO, dPutO, dSortedO, putKD_int, dPar3O, dParO2, par3O_two, parO2_one, minLD_lst, dKeysW, rdPairs_nil, rdPairs_cons, onPair_ii, revD_lst, spx_size_of_two])
local macro_rules | `(tactic| walk_at "dd") => `(tactic| (walk_at "d1"; repeat (with_reducible (refine then_intro ?_); walk_at "d1")))
def rd_law_changed : DTS :=
  (dSeq (dAsg (dVar 0) (gTp 3 (gCs (gNm 2) (gCs (gNm 3) (gCs (gNm 4) gNl))))) (dSeq (dAsg (dVar 1) (gTp 4 (gCs (gNm 5) (gCs (gNm 6) (gCs (gNm 7) (gCs (gNm 8) gNl)))))) (dRet (dTup (dCons (dOp addD (dOp addD (dOp mulD (dOp mulD (dVar 2) (dVar 5)) (dVar 5)) (dOp mulD (dOp mulD (dVar 3) (dVar 5)) (dVar 7))) (dOp mulD (dOp mulD (dVar 4) (dVar 7)) (dVar 7))) (dCons (dOp addD (dOp addD (dOp mulD (dOp mulD (dOp mulD (dC (.int 2)) (dVar 2)) (dVar 5)) (dVar 6)) (dOp mulD (dVar 3) (dOp addD (dOp mulD (dVar 5) (dVar 8)) (dOp mulD (dVar 6) (dVar 7))))) (dOp mulD (dOp mulD (dOp mulD (dC (.int 2)) (dVar 4)) (dVar 7)) (dVar 8))) (dCons (dOp addD (dOp addD (dOp mulD (dOp mulD (dVar 2) (dVar 6)) (dVar 6)) (dOp mulD (dOp mulD (dVar 3) (dVar 6)) (dVar 8))) (dOp mulD (dOp mulD (dVar 4) (dVar 8)) (dVar 8))) dNil)))))))
def sp_law_changed : Lay.Spec := fun ds R => match ds with
  | [.tuple [.int a, .int b, .int c], .tuple [.int p, .int q, .int r, .int s]] => (∃ k : Nat, k ≤ 1000 ∧ SmF k (a, b, c) ∧ p.natAbs < 2 ^ k ∧ q.natAbs < 2 ^ k ∧ r.natAbs < 2 ^ k ∧ s.natAbs < 2 ^ k) ∧ R (formD (act (a, b, c) p q r s))
  | _ => False
theorem spx_law_changed {a b c p q r s : Int} {R : D → Prop} : sp_law_changed [.tuple [.int a, .int b, .int c], .tuple [.int p, .int q, .int r, .int s]] R = ((∃ k : Nat, k ≤ 1000 ∧ SmF k (a, b, c) ∧ p.natAbs < 2 ^ k ∧ q.natAbs < 2 ^ k ∧ r.natAbs < 2 ^ k ∧ s.natAbs < 2 ^ k) ∧ R (formD (act (a, b, c) p q r s))) := rfl
theorem ok_law_changed : ∀ ds R, sp_law_changed ds R → rd_law_changed (fnE R) (startE 9 ds) := by
  intro ds R h
  unfold sp_law_changed at h
  split at h
  · rename_i a b c p q r s
    obtain ⟨⟨k, hk, ⟨ab, bb, cb⟩, pb, qb, rb, sb⟩, h⟩ := h
    have m2 : ∀ {x y : Int}, x.natAbs < 2 ^ k → y.natAbs < 2 ^ k → CMulW x y := fun hx hy => mulOk hx hy (by omega)
    have m3 : ∀ {x y z : Int}, x.natAbs < 2 ^ k → y.natAbs < 2 ^ k → z.natAbs < 2 ^ k → CMulW (x * y) z := fun hx hy hz => mulOk (bits_mul hx hy) hz (by omega)
    have t2 : ∀ {x : Int}, x.natAbs < 2 ^ k → CMulW 2 x := fun hx => mulOk (x := 2) (n := 2) (by decide) hx (by omega)
    have t3 : ∀ {x y : Int}, x.natAbs < 2 ^ k → y.natAbs < 2 ^ k → CMulW (2 * x) y := fun hx hy => mulOk (bits_mul (x := 2) (n := 2) (by decide) hx) hy (by omega)
    have t4 : ∀ {x y z : Int}, x.natAbs < 2 ^ k → y.natAbs < 2 ^ k → z.natAbs < 2 ^ k → CMulW (2 * x * y) z := fun hx hy hz => mulOk (bits_mul (bits_mul (x := 2) (n := 2) (by decide) hx) hy) hz (by omega)
    have s2 : CMulW b (p * s + q * r) := by
      have h1 := bits_add (bits_mul pb sb) (bits_mul qb rb)
      exact mulOk bb h1 (by omega)
    unfold rd_law_changed
    walk_at "dd"
    exact ⟨m2 ab pb, m3 ab pb pb, m2 bb pb, m3 bb pb rb, m2 cb rb, m3 cb rb rb, t2 ab, t3 ab pb, t4 ab pb qb, m2 pb sb, m2 qb rb, s2, t2 cb, t3 cb rb, t4 cb rb sb, m2 ab qb, m3 ab qb qb, m2 bb qb, m3 bb qb sb, m2 cb sb, m3 cb sb sb, h⟩
  · exact h.elim
local macro_rules | `(tactic| walk_at "d1") => `(tactic| try simp only [dSeq, dSkip, dPass, dRet, dRetN, dDrop, dCond, dAsg, gNm, gTp, dOwn, dOwnL, dPar, dAug, dApp, dExt, dFrz, dFor, dLc, dBreak, dCont, dVar, dC, dOp, dT, dIsi, dNeg, dNot, dTNot, dAnd, dOr, dTAnd, dTOr, dIf, dCh, dNil, dCons, dTup, dLst, dIxO, dB, dCall, dCallW, dItems, dRng1, dRng2, dYes, fnE, startE, startW, startS, dLenO, dLenS, dIxS, dSl, dPt, dNo, wipeE, addD_int, addD_str, addD_tup, addD_lst, subD_int, mulD_int, mulD_tup, mulD_lst, fdivD_int, modD_int, powD_int, shlD_int, shrD_int, andD_int, ltD_int, leD_int, gtD_int, geD_int, eqD_ap, neD_ap, isD_ap, isNotD_ap, isNon_none, isNon_int, isNon_bool, isNon_str, isNon_tup, isNon_lst, isInt_none, isInt_int, isInt_bool, isInt_str, isInt_tup, isInt_lst, isBool_none, isBool_int, isBool_bool, isBool_str, isBool_tup, isBool_lst, isStr_none, isStr_int, isStr_bool, isStr_str, isStr_tup, isStr_lst, isTup_none, isTup_int, isTup_bool, isTup_str, isTup_tup, isTup_lst, isLst_lst, Cnd_true, Cnd_false, Cnd_not, Cnd_dec, asB_bool, forall_const, true_implies, false_implies, implies_true, decide_true, decide_false, Classical.not_not, negD_int, notD_bool, onVal_val, onOwn_own, onDic_dic, onScr_scr, onWv_wv, onInt_int, onTup_tup, onLst_lst, onItems_lst, onItems_tup, frz1_own, frz1_val, frz1_un, ixD_lst, ixD_tup, ixL_int, optD_some, optI_some, absD_int, intD_int, intD_bool, lenD_lst, lenD_tup, lenD_str, tupleD_lst, tupleD_tup, listD_lst, listD_tup, min2D_int, max2D_int, sumD_ints, allD_bls, anyD_bls, slD_lst, slD_tup, slD_str, gNl_nil, gCs_cons, par2_two, seq1_lst, seq1_tup, rng1D_int, rng2D_int, gt_z, gt_s, sp_next_int, set_z, set_s, List.map_cons, List.map_nil, List.length_cons, List.length_nil, List.cons_append, List.nil_append, List.replicate, Nat.reduceAdd, Nat.reduceSub, Nat.zero_add, shaped_int, shaped_bool, shaped_none, shaped_listI, shaped_tupI, shaped_nilL, shaped_nilT, eqv_int, eqv_bool, eqv_str, eqv_none, eqv_list_nil, List.isEmpty_nil, List.isEmpty_cons, Bool.true_eq_false, Bool.false_eq_true, decide_eq_true_eq, and_self, true_and, and_true, not_dec, Bool.not_eq_true', decide_eq_false_iff_not, atI_0, atI_1, atI_2, ite_true, ite_false, if_true, if_false, reduceIte, Bool.not_true, Bool.not_false, not_true_eq_false, not_false_eq_true, List.set_cons_zero, List.set_cons_succ, dPar3, dRev, par3_three, sortedD_ints, revD_tup, two_nat, one_nat, three_nat, dCh3, dOwnC, dPutPar, putPar_two, dZip2, zip2D_lst, zip2D_tup, dPut, isBD_bl, isNotBD_bl, dNewO, dPutO, dSortedO, putKD_int, dPar3O, dParO2, par3O_two, parO2_one, minLD_lst, dKeysW, rdPairs_nil, rdPairs_cons, onPair_ii, revD_lst])
local macro_rules | `(tactic| walk_at "dd") => `(tactic| (walk_at "d1"; repeat (with_reducible (refine then_intro ?_); walk_at "d1")))
/-! lattices: numbers x + y root D as pairs -/
abbrev Z2 := Int × Int
def zm (D : Int) (u v : Z2) : Z2 := (u.1 * v.1 + D * (u.2 * v.2), u.1 * v.2 + u.2 * v.1)
def za (u v : Z2) : Z2 := (u.1 + v.1, u.2 + v.2)
theorem z_ext {u v : Z2} (h1 : u.1 = v.1) (h2 : u.2 = v.2) : u = v := Prod.ext h1 h2
theorem zm_comm (D : Int) (u v : Z2) : zm D u v = zm D v u := by refine z_ext ?_ ?_ <;> unfold zm <;> simp only <;> grind
theorem zm_assoc (D : Int) (u v w : Z2) : zm D (zm D u v) w = zm D u (zm D v w) := by refine z_ext ?_ ?_ <;> unfold zm <;> simp only <;> grind
theorem zm_add (D : Int) (u v w : Z2) : zm D u (za v w) = za (zm D u v) (zm D u w) := by refine z_ext ?_ ?_ <;> unfold zm za <;> simp only <;> grind
theorem zm_add_right (D : Int) (u v w : Z2) : zm D (za u v) w = za (zm D u w) (zm D v w) := by refine z_ext ?_ ?_ <;> unfold zm za <;> simp only <;> grind
theorem zm_zero (D : Int) (u : Z2) : zm D u (0, 0) = (0, 0) := by refine z_ext ?_ ?_ <;> unfold zm <;> simp
theorem zm_zero_left (D : Int) (u : Z2) : zm D (0, 0) u = (0, 0) := by refine z_ext ?_ ?_ <;> unfold zm <;> simp
theorem zm_one (D : Int) (u : Z2) : zm D (1, 0) u = u := by refine z_ext ?_ ?_ <;> unfold zm <;> simp
theorem za_assoc (u v w : Z2) : za (za u v) w = za u (za v w) := by refine z_ext ?_ ?_ <;> unfold za <;> simp only <;> omega
theorem za_zero (u : Z2) : za u (0, 0) = u := by refine z_ext ?_ ?_ <;> unfold za <;> simp
theorem za_zero_left (u : Z2) : za (0, 0) u = u := by refine z_ext ?_ ?_ <;> unfold za <;> simp
def nrm (D : Int) (u : Z2) : Int := u.1 * u.1 - D * (u.2 * u.2)
theorem nrm_mul (D : Int) (u v : Z2) : nrm D (zm D u v) = nrm D u * nrm D v := by unfold nrm zm; simp only; grind
theorem nrm_pos {D : Int} (hD : D < 0) {u : Z2} (h : u ≠ (0, 0)) : 0 < nrm D u := by
  have h1 := sqI_nonneg u.1
  have h2 := sqI_nonneg u.2
  have h3 := Int.mul_nonpos_of_nonpos_of_nonneg (show D ≤ 0 by omega) h2
  unfold nrm
  by_cases z : u.1 = 0
  · have z2 : u.2 ≠ 0 := fun e => h (z_ext z e)
    have := Int.mul_neg_of_neg_of_pos hD (sqI_pos z2)
    omega
  · have := sqI_pos z
    omega
theorem zm_ne {D : Int} (hD : D < 0) {u v : Z2} (hu : u ≠ (0, 0)) (hv : v ≠ (0, 0)) : zm D u v ≠ (0, 0) := fun e => by
  have h1 := Int.mul_pos (nrm_pos hD hu) (nrm_pos hD hv)
  rw [← nrm_mul, e] at h1
  unfold nrm at h1
  simp at h1
abbrev Lt := Z2 → Prop
inductive Pr (D : Int) (S T : Lt) : Lt
  | nil : Pr D S T (0, 0)
  | cons {s t z : Z2} : S s → T t → Pr D S T z → Pr D S T (za (zm D s t) z)
section
variable {D : Int} {S T U S' T' : Lt}
theorem Pr.one {s t : Z2} (hs : S s) (ht : T t) : Pr D S T (zm D s t) := by
  have := Pr.cons (D := D) hs ht .nil
  rwa [za_zero] at this
theorem Pr.add {u v : Z2} (hu : Pr D S T u) (hv : Pr D S T v) : Pr D S T (za u v) := by
  induction hu with
  | nil => rwa [za_zero_left]
  | cons h1 h2 _ ih => rw [za_assoc]; exact .cons h1 h2 ih
theorem Pr.comm {u : Z2} (h : Pr D S T u) : Pr D T S u := by
  induction h with
  | nil => exact .nil
  | cons h1 h2 _ ih => rw [zm_comm]; exact .cons h2 h1 ih
theorem Pr.mono {u : Z2} (hS : ∀ z, S z → S' z) (hT : ∀ z, T z → T' z) (h : Pr D S T u) : Pr D S' T' u := by
  induction h with
  | nil => exact .nil
  | cons h1 h2 _ ih => exact .cons (hS _ h1) (hT _ h2) ih
theorem Pr.assoc {u : Z2} (h : Pr D (Pr D S T) U u) : Pr D S (Pr D T U) u := by
  induction h with
  | nil => exact .nil
  | @cons s t z h1 h2 _ ih =>
    refine Pr.add ?_ ih
    clear ih
    induction h1 with
    | nil => rw [zm_zero_left]; exact .nil
    | cons k1 k2 _ ih =>
      rw [zm_add_right, zm_assoc]
      exact .cons k1 (.one k2 h2) ih
theorem Pr.assoc' {u : Z2} (h : Pr D S (Pr D T U) u) : Pr D (Pr D S T) U u :=
  ((((h.comm.mono (fun _ k => k.comm) (fun _ k => k)).assoc).comm).mono (fun _ k => k.comm) (fun _ k => k))
def Sc (D : Int) (l : Z2) (S : Lt) : Lt := fun z => ∃ s, S s ∧ z = zm D l s
theorem pr_sc {l u : Z2} : Pr D (Sc D l S) T u ↔ Sc D l (Pr D S T) u := by
  constructor
  · intro h
    induction h with
    | nil => exact ⟨(0, 0), .nil, (zm_zero D l).symm⟩
    | cons h1 h2 _ ih =>
      obtain ⟨s, hs, rfl⟩ := h1
      obtain ⟨z, hz, rfl⟩ := ih
      exact ⟨_, .cons hs h2 hz, by rw [zm_add, zm_assoc]⟩
  · rintro ⟨s, hs, rfl⟩
    induction hs with
    | nil => rw [zm_zero]; exact .nil
    | cons h1 h2 _ ih =>
      rw [zm_add, ← zm_assoc]
      exact .cons ⟨_, h1, rfl⟩ h2 ih
def Sim (D : Int) (S T : Lt) : Prop := ∃ l m : Z2, l ≠ (0, 0) ∧ m ≠ (0, 0) ∧ ∀ z, Sc D l S z ↔ Sc D m T z
theorem Sim.of_iff (h : ∀ z, S z ↔ T z) : Sim D S T := ⟨(1, 0), (1, 0), by decide, by decide, fun z => by
  constructor
  · rintro ⟨s, hs, e⟩; exact ⟨s, (h s).mp hs, e⟩
  · rintro ⟨s, hs, e⟩; exact ⟨s, (h s).mpr hs, e⟩⟩
theorem Sim.refl : Sim D S S := .of_iff fun _ => Iff.rfl
theorem Sim.symm (h : Sim D S T) : Sim D T S := by
  obtain ⟨l, m, h1, h2, h3⟩ := h
  exact ⟨m, l, h2, h1, fun z => (h3 z).symm⟩
theorem sc_sc {l m u : Z2} : Sc D l (Sc D m S) u ↔ Sc D (zm D l m) S u := by
  constructor
  · rintro ⟨_, ⟨s, hs, rfl⟩, rfl⟩
    exact ⟨s, hs, (zm_assoc D l m s).symm⟩
  · rintro ⟨s, hs, rfl⟩
    exact ⟨_, ⟨s, hs, rfl⟩, zm_assoc D l m s⟩
theorem sc_iff {l u : Z2} (h : ∀ z, S z ↔ T z) : Sc D l S u ↔ Sc D l T u := by
  constructor
  · rintro ⟨s, hs, e⟩; exact ⟨s, (h s).mp hs, e⟩
  · rintro ⟨s, hs, e⟩; exact ⟨s, (h s).mpr hs, e⟩
theorem Sim.trans (hD : D < 0) (h1 : Sim D S T) (h2 : Sim D T U) : Sim D S U := by
  obtain ⟨l, m, l0, m0, h1⟩ := h1
  obtain ⟨l', m', l0', m0', h2⟩ := h2
  refine ⟨zm D l' l, zm D m m', zm_ne hD l0' l0, zm_ne hD m0 m0', fun z => ?_⟩
  rw [← sc_sc, sc_iff h1, sc_sc, zm_comm D l' m, ← sc_sc, sc_iff h2, sc_sc]
theorem pr_iff {u : Z2} (hS : ∀ z, S z ↔ S' z) (hT : ∀ z, T z ↔ T' z) : Pr D S T u ↔ Pr D S' T' u :=
  ⟨.mono (fun z => (hS z).mp) fun z => (hT z).mp, .mono (fun z => (hS z).mpr) fun z => (hT z).mpr⟩
theorem Sim.left (h : Sim D S S') : Sim D (Pr D S T) (Pr D S' T) := by
  obtain ⟨l, m, l0, m0, h⟩ := h
  refine ⟨l, m, l0, m0, fun z => ?_⟩
  rw [← pr_sc, ← pr_sc]
  exact pr_iff h fun _ => Iff.rfl
theorem Sim.comm : Sim D (Pr D S T) (Pr D T S) := .of_iff fun _ => ⟨Pr.comm, Pr.comm⟩
theorem Sim.right (hD : D < 0) (h : Sim D T T') : Sim D (Pr D S T) (Pr D S T') := (Sim.comm.trans hD h.left).trans hD .comm
theorem Sim.pr (hD : D < 0) (h1 : Sim D S S') (h2 : Sim D T T') : Sim D (Pr D S T) (Pr D S' T') := h1.left.trans hD (h2.right hD)
theorem Sim.assoc : Sim D (Pr D (Pr D S T) U) (Pr D S (Pr D T U)) := .of_iff fun _ => ⟨Pr.assoc, Pr.assoc'⟩
end
/-! ### the lattice of a form -/
def elt (f : Form) (x y : Int) : Z2 := (2 * f.1 * x + f.2.1 * y, y)
def Lat (f : Form) : Lt := fun z => ∃ x y : Int, z = elt f x y
theorem elt_add (f : Form) (x y u v : Int) : za (elt f x y) (elt f u v) = elt f (x + u) (y + v) := by refine z_ext ?_ ?_ <;> unfold za elt <;> simp only <;> grind
theorem lat_act {D : Int} (hD : D < 0) {f : Form} (h0 : 0 < f.1) (hd : disc f = D) {p q r s : Int} (h : p * s - q * r = 1) : Sim D (Lat f) (Lat (act f p q r s)) := by
  subst hd
  have key : ∀ X Y : Int, zm (disc f) (2 * f.1 * p + f.2.1 * r, -r) (elt f (p * X + q * Y) (r * X + s * Y)) = zm (disc f) (2 * f.1, 0) (elt (act f p q r s) X Y) := fun X Y => by
    refine z_ext ?_ ?_
    · unfold zm elt act disc
      simp only
      have hY : Y = (p * s - q * r) * Y := by rw [h, Int.one_mul]
      grind
    · unfold zm elt act
      simp only
      have hY : Y = (p * s - q * r) * Y := by rw [h, Int.one_mul]
      grind
  refine ⟨(2 * f.1 * p + f.2.1 * r, -r), (2 * f.1, 0), fun e => ?_, fun e => ?_, fun z => ?_⟩
  · have e1 := congrArg (·.1) e
    have e2 := congrArg (·.2) e
    simp only at e1 e2
    have r0 : r = 0 := by omega
    subst r0
    rw [Int.mul_zero, Int.add_zero] at e1
    have := (Int.mul_eq_zero.mp e1).resolve_left (by omega)
    subst this
    omega
  · have e1 := congrArg (·.1) e
    simp only at e1
    omega
  · constructor
    · rintro ⟨_, ⟨x, y, rfl⟩, rfl⟩
      refine ⟨_, ⟨s * x - q * y, p * y - r * x, rfl⟩, ?_⟩
      rw [← key]
      have e1 : p * (s * x - q * y) + q * (p * y - r * x) = x := by
        have : p * (s * x - q * y) + q * (p * y - r * x) = (p * s - q * r) * x := by grind
        rw [this, h, Int.one_mul]
      have e2 : r * (s * x - q * y) + s * (p * y - r * x) = y := by
        have : r * (s * x - q * y) + s * (p * y - r * x) = (p * s - q * r) * y := by grind
        rw [this, h, Int.one_mul]
      rw [e1, e2]
    · rintro ⟨_, ⟨x, y, rfl⟩, rfl⟩
      exact ⟨_, ⟨_, _, rfl⟩, (key x y).symm⟩
theorem Eqv.sim {D : Int} (hD : D < 0) {f g : Form} (h0 : 0 < f.1) (hd : Lay.disc f = D) (h : Eqv f g) : Sim D (Lat f) (Lat g) := by
  obtain ⟨p, q, r, s, e, rfl⟩ := h
  exact lat_act hD h0 hd e
def crs (u v : Z2) : Int := u.1 * v.2 - u.2 * v.1
theorem crs_mul (D : Int) (l u v : Z2) : crs (zm D l u) (zm D l v) = nrm D l * crs u v := by unfold crs zm nrm; simp only; grind
def inn (D : Int) (u v : Z2) : Int := u.1 * v.1 - D * (u.2 * v.2)
theorem inn_mul (D : Int) (l u v : Z2) : inn D (zm D l u) (zm D l v) = nrm D l * inn D u v := by unfold inn zm nrm; simp only; grind
theorem crs_elt (f : Form) (p q r s : Int) : crs (elt f p r) (elt f q s) = 2 * f.1 * (p * s - q * r) := by unfold crs elt; simp only; grind
theorem inn_elt (f : Form) (p q r s : Int) : inn (disc f) (elt f p r) (elt f q s) = 2 * f.1 * (2 * f.1 * p * q + f.2.1 * (p * s + q * r) + 2 * f.2.2 * r * s) := by unfold inn elt disc; simp only; grind
theorem nrm_elt (f : Form) (p r : Int) : nrm (disc f) (elt f p r) = 4 * f.1 * valF f p r := by unfold nrm elt disc valF; simp only; grind
/-- forms with multiples of one lattice are alike -/
theorem sim_eqv {D : Int} (hD : D < 0) {f g : Form} (f0 : 0 < f.1) (g0 : 0 < g.1) (hf : disc f = D) (hg : disc g = D) (h : Sim D (Lat f) (Lat g)) : Eqv g f := by
  obtain ⟨l, m, l0, m0, h⟩ := h
  have nl := nrm_pos hD l0
  have nm := nrm_pos hD m0
  obtain ⟨_, ⟨p, r, rfl⟩, e1⟩ := (h (zm D l (elt f 1 0))).mp ⟨_, ⟨1, 0, rfl⟩, rfl⟩
  obtain ⟨_, ⟨q, s, rfl⟩, e2⟩ := (h (zm D l (elt f 0 1))).mp ⟨_, ⟨0, 1, rfl⟩, rfl⟩
  obtain ⟨_, ⟨p', r', rfl⟩, e3⟩ := (h (zm D m (elt g 1 0))).mpr ⟨_, ⟨1, 0, rfl⟩, rfl⟩
  obtain ⟨_, ⟨q', s', rfl⟩, e4⟩ := (h (zm D m (elt g 0 1))).mpr ⟨_, ⟨0, 1, rfl⟩, rfl⟩
  have c1 : nrm D l * (2 * f.1) = nrm D m * (2 * g.1) * (p * s - q * r) := by
    have t : crs (zm D l (elt f 1 0)) (zm D l (elt f 0 1)) = crs (zm D m (elt g p r)) (zm D m (elt g q s)) := by rw [e1, e2]
    rw [crs_mul, crs_mul, crs_elt, crs_elt] at t
    rw [Int.mul_assoc, ← t]
    grind
  have c2 : nrm D m * (2 * g.1) = nrm D l * (2 * f.1) * (p' * s' - q' * r') := by
    have t : crs (zm D m (elt g 1 0)) (zm D m (elt g 0 1)) = crs (zm D l (elt f p' r')) (zm D l (elt f q' s')) := by rw [e3, e4]
    rw [crs_mul, crs_mul, crs_elt, crs_elt] at t
    rw [Int.mul_assoc, ← t]
    grind
  have k1 := Int.mul_pos nl (show 0 < 2 * f.1 by omega)
  have k2 := Int.mul_pos nm (show 0 < 2 * g.1 by omega)
  have det : p * s - q * r = 1 := by
    generalize p * s - q * r = u at *
    generalize p' * s' - q' * r' = v at *
    have e : nrm D l * (2 * f.1) * (u * v) = nrm D l * (2 * f.1) * 1 := by
      rw [Int.mul_one]
      conv => rhs; rw [c1, c2]
      grind
    have uv := Int.eq_of_mul_eq_mul_left (by omega) e
    have u0 : 0 < u := by
      rcases (show 0 < u ∨ u ≤ 0 by omega) with z | z
      · exact z
      · have := Int.mul_nonpos_of_nonneg_of_nonpos (show 0 ≤ nrm D m * (2 * g.1) by omega) z
        omega
    rcases unit_mul uv with ⟨z, _⟩ | ⟨z, _⟩ <;> omega
  rw [det, Int.mul_one] at c1
  have A : nrm D l * f.1 = nrm D m * g.1 := by
    have : 2 * (nrm D l * f.1) = 2 * (nrm D m * g.1) := by
      have e1 : nrm D l * (2 * f.1) = 2 * (nrm D l * f.1) := by grind
      have e2 : nrm D m * (2 * g.1) = 2 * (nrm D m * g.1) := by grind
      omega
    omega
  have pos : 4 * (nrm D m * g.1) ≠ 0 := by
    have := Int.mul_pos nm g0
    omega
  refine ⟨p, q, r, s, det, form_ext ?_ ?_ ?_⟩
  · have e := congrArg (nrm D) e1
    rw [nrm_mul, nrm_mul, ← hf, nrm_elt, hf, ← hg, nrm_elt, hg] at e
    have v1 : valF f 1 0 = f.1 := by unfold valF; grind
    rw [v1] at e
    have : 4 * (nrm D m * g.1) * f.1 = 4 * (nrm D m * g.1) * valF g p r := by
      rw [← A]
      conv => rhs; rw [A]
      grind
    exact Int.eq_of_mul_eq_mul_left pos this
  · have e := inn_mul D l (elt f 1 0) (elt f 0 1)
    rw [e1, e2, inn_mul] at e
    rw [← hf, inn_elt, hf, ← hg, inn_elt, hg] at e
    have pos2 : 2 * (nrm D m * g.1) ≠ 0 := by omega
    refine Int.eq_of_mul_eq_mul_left pos2 ?_
    show 2 * (nrm D m * g.1) * f.2.1 = 2 * (nrm D m * g.1) * (2 * g.1 * p * q + g.2.1 * (p * s + q * r) + 2 * g.2.2 * r * s)
    have e' : nrm D m * (2 * g.1 * (2 * g.1 * p * q + g.2.1 * (p * s + q * r) + 2 * g.2.2 * r * s)) = nrm D l * (2 * f.1 * f.2.1) := by rw [e]; grind
    have e3 : 2 * (nrm D m * g.1) * (2 * g.1 * p * q + g.2.1 * (p * s + q * r) + 2 * g.2.2 * r * s) = nrm D m * (2 * g.1 * (2 * g.1 * p * q + g.2.1 * (p * s + q * r) + 2 * g.2.2 * r * s)) := by grind
    rw [e3, e', ← A]
    grind
  · have e := congrArg (nrm D) e2
    rw [nrm_mul, nrm_mul, ← hf, nrm_elt, hf, ← hg, nrm_elt, hg] at e
    have v1 : valF f 0 1 = f.2.2 := by unfold valF; grind
    rw [v1] at e
    have : 4 * (nrm D m * g.1) * f.2.2 = 4 * (nrm D m * g.1) * valF g q s := by
      rw [← A]
      conv => rhs; rw [A]
      grind
    exact Int.eq_of_mul_eq_mul_left pos this
theorem sim_red {D : Int} (hD : D < 0) {f g : Form} (f0 : 0 < f.1) (g0 : 0 < g.1) (hf : disc f = D) (hg : disc g = D) (rf : Red f) (rg : Red g) (h : Sim D (Lat f) (Lat g)) : f = g :=
  (red_unique g0 (by rw [hg]; exact hD) (sim_eqv hD f0 g0 hf hg h) rg rf).symm
local macro_rules | `(tactic| walk_at "d1") => `(tactic| try simp only [dSeq, dSkip, dPass, dRet, dRetN, dDrop, dCond, dAsg, gNm, gTp, dOwn, dOwnL, dPar, dAug, dApp, dExt, dFrz, dFor, dLc, dBreak, dCont, dVar, dC, dOp, dT, dIsi, dNeg, dNot, dTNot, dAnd, dOr, dTAnd, dTOr, dIf, dCh, dNil, dCons, dTup, dLst, dIxO, dB, dCall, dCallW, dItems, dRng1, dRng2, dYes, fnE, startE, startW, startS, dLenO, dLenS, dIxS, dSl, dPt, dNo, wipeE, addD_int, addD_str, addD_tup, addD_lst, subD_int, mulD_int, mulD_tup, mulD_lst, fdivD_int, modD_int, powD_int, shlD_int, shrD_int, andD_int, ltD_int, leD_int, gtD_int, geD_int, eqD_ap, neD_ap, isD_ap, isNotD_ap, isNon_none, isNon_int, isNon_bool, isNon_str, isNon_tup, isNon_lst, isInt_none, isInt_int, isInt_bool, isInt_str, isInt_tup, isInt_lst, isBool_none, isBool_int, isBool_bool, isBool_str, isBool_tup, isBool_lst, isStr_none, isStr_int, isStr_bool, isStr_str, isStr_tup, isStr_lst, isTup_none, isTup_int, isTup_bool, isTup_str, isTup_tup, isTup_lst, isLst_lst, Cnd_true, Cnd_false, Cnd_not, Cnd_dec, asB_bool, forall_const, true_implies, false_implies, implies_true, decide_true, decide_false, Classical.not_not, negD_int, notD_bool, onVal_val, onOwn_own, onDic_dic, onScr_scr, onWv_wv, onInt_int, onTup_tup, onLst_lst, onItems_lst, onItems_tup, frz1_own, frz1_val, frz1_un, ixD_lst, ixD_tup, ixL_int, optD_some, optI_some, absD_int, intD_int, intD_bool, lenD_lst, lenD_tup, lenD_str, tupleD_lst, tupleD_tup, listD_lst, listD_tup, min2D_int, max2D_int, sumD_ints, allD_bls, anyD_bls, slD_lst, slD_tup, slD_str, gNl_nil, gCs_cons, par2_two, seq1_lst, seq1_tup, rng1D_int, rng2D_int, gt_z, gt_s, sp_next_int, set_z, set_s, List.map_cons, List.map_nil, List.length_cons, List.length_nil, List.cons_append, List.nil_append, List.replicate, Nat.reduceAdd, Nat.reduceSub, Nat.zero_add, shaped_int, shaped_bool, shaped_none, shaped_listI, shaped_tupI, shaped_nilL, shaped_nilT, eqv_int, eqv_bool, eqv_str, eqv_none, eqv_list_nil, List.isEmpty_nil, List.isEmpty_cons, Bool.true_eq_false, Bool.false_eq_true, decide_eq_true_eq, and_self, true_and, and_true, not_dec, Bool.not_eq_true', decide_eq_false_iff_not, atI_0, atI_1, atI_2, ite_true, ite_false, if_true, if_false, reduceIte, Bool.not_true, Bool.not_false, not_true_eq_false, not_false_eq_true, List.set_cons_zero, List.set_cons_succ, dPar3, dRev, par3_three, sortedD_ints, revD_tup, two_nat, one_nat, three_nat, dCh3, dOwnC, dPutPar, putPar_two, dZip2, zip2D_lst, zip2D_tup, dPut, isBD_bl, isNotBD_bl, dNewO, dPutO, dSortedO, putKD_int, dPar3O, dParO2, par3O_two, parO2_one, minLD_lst, dKeysW, rdPairs_nil, rdPairs_cons, onPair_ii, revD_lst])
local macro_rules | `(tactic| walk_at "dd") => `(tactic| (walk_at "d1"; repeat (with_reducible (refine then_intro ?_); walk_at "d1")))
/-- F comes of joining f and g, with the numbers that show it -/
structure JD (f g F : Form) (n a e h t u v : Int) : Prop where
  n0 : n ≠ 0
  ha : f.1 = n * a
  he : g.1 = n * e
  hh : f.2.1 + g.2.1 = 2 * n * h
  hB : F.2.1 = f.2.1 + 2 * a * t
  hu : g.2.1 = F.2.1 + 2 * e * u
  hv : h * t + f.2.2 = e * v
  hF : F.1 = a * e
theorem join_elt {D : Int} {f g F : Form} {n a e h t u v : Int} (J : JD f g F n a e h t u v) (hf : disc f = D) (x y z w : Int) :
    zm D (elt f x y) (elt g z w) = zm D (2 * n, 0) (elt F (n * (x * z) + u * (x * w) - t * (y * z) - v * (y * w)) (a * (x * w) + e * (y * z) + h * (y * w))) := by
  obtain ⟨_, ha, he, hh, hB, hu, hv, hF⟩ := J
  subst hf
  obtain ⟨f1, f2, f3⟩ := f
  obtain ⟨g1, g2, g3⟩ := g
  obtain ⟨F1, F2, F3⟩ := F
  simp only at ha he hh hB hu hv hF
  subst ha he hF hB
  have hn : 2 * n * h = f2 + f2 + 2 * a * t + 2 * e * u := by omega
  refine z_ext ?_ ?_
  · unfold zm elt disc
    simp only
    rw [hu]
    have k1 : f3 = e * v - h * t := by omega
    rw [k1]
    grind
  · unfold zm elt
    simp only
    rw [hu]
    grind
theorem join_sim {D : Int} {f g F : Form} {n a e h t u v : Int} (J : JD f g F n a e h t u v) (hf : disc f = D) {al be ga : Int} (pr : al * f.1 + be * f.2.1 + ga * f.2.2 = 1) : Sim D (Pr D (Lat f) (Lat g)) (Lat F) := by
  have n0 := J.n0
  refine ⟨(1, 0), (2 * n, 0), by decide, fun z => ?_, fun z => ?_⟩
  · have := congrArg (·.1) z
    simp only at this
    omega
  have one : ∀ z, Sc D (1, 0) (Pr D (Lat f) (Lat g)) z ↔ Pr D (Lat f) (Lat g) z := fun z => by
    constructor
    · rintro ⟨s, hs, rfl⟩; rwa [zm_one]
    · intro h; exact ⟨z, h, (zm_one D z).symm⟩
  rw [one]
  constructor
  · intro hz
    induction hz with
    | nil => exact ⟨elt F 0 0, ⟨0, 0, rfl⟩, by rw [show elt F 0 0 = (0, 0) by unfold elt; simp, zm_zero]⟩
    | cons h1 h2 _ ih =>
      obtain ⟨x, y, rfl⟩ := h1
      obtain ⟨z, w, rfl⟩ := h2
      obtain ⟨_, ⟨X, Y, rfl⟩, rfl⟩ := ih
      rw [join_elt J hf, ← zm_add, elt_add]
      exact ⟨_, ⟨_, _, rfl⟩, rfl⟩
  · rintro ⟨_, ⟨X, Y, rfl⟩, rfl⟩
    -- four products
    have comb : ∀ c1 c2 c3 c4 : Int, Pr D (Lat f) (Lat g) (zm D (2 * n, 0) (elt F (n * c1 + u * c2 - t * c3 - v * c4) (a * c2 + e * c3 + h * c4))) := fun c1 c2 c3 c4 => by
      have p1 := join_elt J hf c1 0 1 0
      have p2 := join_elt J hf c2 0 0 1
      have p3 := join_elt J hf 0 c3 1 0
      have p4 := join_elt J hf 0 c4 0 1
      have q1 : Pr D (Lat f) (Lat g) (zm D (elt f c1 0) (elt g 1 0)) := .one ⟨_, _, rfl⟩ ⟨_, _, rfl⟩
      have q2 : Pr D (Lat f) (Lat g) (zm D (elt f c2 0) (elt g 0 1)) := .one ⟨_, _, rfl⟩ ⟨_, _, rfl⟩
      have q3 : Pr D (Lat f) (Lat g) (zm D (elt f 0 c3) (elt g 1 0)) := .one ⟨_, _, rfl⟩ ⟨_, _, rfl⟩
      have q4 : Pr D (Lat f) (Lat g) (zm D (elt f 0 c4) (elt g 0 1)) := .one ⟨_, _, rfl⟩ ⟨_, _, rfl⟩
      have q := (q1.add q2).add (q3.add q4)
      rw [p1, p2, p3, p4, ← zm_add, ← zm_add, ← zm_add, elt_add, elt_add, elt_add] at q
      have e1 : n * (c1 * 1) + u * (c1 * 0) - t * (0 * 1) - v * (0 * 0) + (n * (c2 * 0) + u * (c2 * 1) - t * (0 * 0) - v * (0 * 1)) + (n * (0 * 1) + u * (0 * 0) - t * (c3 * 1) - v * (c3 * 0) + (n * (0 * 0) + u * (0 * 1) - t * (c4 * 0) - v * (c4 * 1))) = n * c1 + u * c2 - t * c3 - v * c4 := by grind
      have e2 : a * (c1 * 0) + e * (0 * 1) + h * (0 * 0) + (a * (c2 * 1) + e * (0 * 0) + h * (0 * 1)) + (a * (0 * 0) + e * (c3 * 1) + h * (c3 * 0) + (a * (0 * 1) + e * (c4 * 0) + h * (c4 * 1))) = a * c2 + e * c3 + h * c4 := by grind
      rw [e1, e2] at q
      exact q
    obtain ⟨_, ha, he, hh, hB, hu, hv, hF⟩ := J
    have k1 : u * e + t * a = n * h - f.2.1 := by
      have e1 : 2 * (u * e) = 2 * e * u := by grind
      have e2 : 2 * (t * a) = 2 * a * t := by grind
      have e3 : 2 * (n * h) = 2 * n * h := by grind
      omega
    have one' : al * (n * a) + be * (n * h - (u * e + t * a)) + ga * (v * e - t * h) = 1 := by
      rw [k1, ← ha, show n * h - (n * h - f.2.1) = f.2.1 by omega, show v * e - t * h = f.2.2 by
        have e1 : h * t = t * h := Int.mul_comm ..
        have e2 : e * v = v * e := Int.mul_comm ..
        omega]
      exact pr
    have key := comb (X * (al * a + be * h) + Y * (-(al * u) + be * v)) (X * -(be * e) + Y * (al * n - be * t)) (X * (be * a + ga * h) + Y * (-(be * u) + ga * v)) (X * -(ga * e) + Y * (be * n - ga * t))
    have e1 : n * (X * (al * a + be * h) + Y * (-(al * u) + be * v)) + u * (X * -(be * e) + Y * (al * n - be * t)) - t * (X * (be * a + ga * h) + Y * (-(be * u) + ga * v)) - v * (X * -(ga * e) + Y * (be * n - ga * t)) = X * (al * (n * a) + be * (n * h - (u * e + t * a)) + ga * (v * e - t * h)) := by grind
    have e2 : a * (X * -(be * e) + Y * (al * n - be * t)) + e * (X * (be * a + ga * h) + Y * (-(be * u) + ga * v)) + h * (X * -(ga * e) + Y * (be * n - ga * t)) = Y * (al * (n * a) + be * (n * h - (u * e + t * a)) + ga * (v * e - t * h)) := by grind
    rw [e1, e2, one', Int.mul_one, Int.mul_one] at key
    exact key
local macro_rules | `(tactic| walk_at "d1") => `(tactic| try simp only [dSeq, dSkip, dPass, dRet, dRetN, dDrop, dCond, dAsg, gNm, gTp, dOwn, dOwnL, dPar, dAug, dApp, dExt, dFrz, dFor, dLc, dBreak, dCont, dVar, dC, dOp, dT, dIsi, dNeg, dNot, dTNot, dAnd, dOr, dTAnd, dTOr, dIf, dCh, dNil, dCons, dTup, dLst, dIxO, dB, dCall, dCallW, dItems, dRng1, dRng2, dYes, fnE, startE, startW, startS, dLenO, dLenS, dIxS, dSl, dPt, dNo, wipeE, addD_int, addD_str, addD_tup, addD_lst, subD_int, mulD_int, mulD_tup, mulD_lst, fdivD_int, modD_int, powD_int, shlD_int, shrD_int, andD_int, ltD_int, leD_int, gtD_int, geD_int, eqD_ap, neD_ap, isD_ap, isNotD_ap, isNon_none, isNon_int, isNon_bool, isNon_str, isNon_tup, isNon_lst, isInt_none, isInt_int, isInt_bool, isInt_str, isInt_tup, isInt_lst, isBool_none, isBool_int, isBool_bool, isBool_str, isBool_tup, isBool_lst, isStr_none, isStr_int, isStr_bool, isStr_str, isStr_tup, isStr_lst, isTup_none, isTup_int, isTup_bool, isTup_str, isTup_tup, isTup_lst, isLst_lst, Cnd_true, Cnd_false, Cnd_not, Cnd_dec, asB_bool, forall_const, true_implies, false_implies, implies_true, decide_true, decide_false, Classical.not_not, negD_int, notD_bool, onVal_val, onOwn_own, onDic_dic, onScr_scr, onWv_wv, onInt_int, onTup_tup, onLst_lst, onItems_lst, onItems_tup, frz1_own, frz1_val, frz1_un, ixD_lst, ixD_tup, ixL_int, optD_some, optI_some, absD_int, intD_int, intD_bool, lenD_lst, lenD_tup, lenD_str, tupleD_lst, tupleD_tup, listD_lst, listD_tup, min2D_int, max2D_int, sumD_ints, allD_bls, anyD_bls, slD_lst, slD_tup, slD_str, gNl_nil, gCs_cons, par2_two, seq1_lst, seq1_tup, rng1D_int, rng2D_int, gt_z, gt_s, sp_next_int, set_z, set_s, List.map_cons, List.map_nil, List.length_cons, List.length_nil, List.cons_append, List.nil_append, List.replicate, Nat.reduceAdd, Nat.reduceSub, Nat.zero_add, shaped_int, shaped_bool, shaped_none, shaped_listI, shaped_tupI, shaped_nilL, shaped_nilT, eqv_int, eqv_bool, eqv_str, eqv_none, eqv_list_nil, List.isEmpty_nil, List.isEmpty_cons, Bool.true_eq_false, Bool.false_eq_true, decide_eq_true_eq, and_self, true_and, and_true, not_dec, Bool.not_eq_true', decide_eq_false_iff_not, atI_0, atI_1, atI_2, ite_true, ite_false, if_true, if_false, reduceIte, Bool.not_true, Bool.not_false, not_true_eq_false, not_false_eq_true, List.set_cons_zero, List.set_cons_succ, dPar3, dRev, par3_three, sortedD_ints, revD_tup, two_nat, one_nat, three_nat, dCh3, dOwnC, dPutPar, putPar_two, dZip2, zip2D_lst, zip2D_tup, dPut, isBD_bl, isNotBD_bl, dNewO, dPutO, dSortedO, putKD_int, dPar3O, dParO2, par3O_two, parO2_one, minLD_lst, dKeysW, rdPairs_nil, rdPairs_cons, onPair_ii, revD_lst])
local macro_rules | `(tactic| walk_at "dd") => `(tactic| (walk_at "d1"; repeat (with_reducible (refine then_intro ?_); walk_at "d1")))
def rd_unit_two : DTS :=
  (dRet (dIf (dT (dOp eqD (dOp modD (dVar 0) (dC (.int 4))) (dC (.int 0)))) (dTup (dCons (dC (.int 1)) (dCons (dC (.int 0)) (dCons (dOp fdivD (dNeg (dVar 0)) (dC (.int 4))) dNil)))) (dTup (dCons (dC (.int 1)) (dCons (dC (.int 1)) (dCons (dOp fdivD (dOp subD (dC (.int 1)) (dVar 0)) (dC (.int 4))) dNil))))))
def sp_unit_two : Lay.Spec := fun ds R => match ds with
  | [.int d] => R (formD (unitF d))
  | _ => False
theorem ok_unit_two : ∀ ds R, sp_unit_two ds R → rd_unit_two (fnE R) (startE 1 ds) := by
  intro ds R h
  unfold sp_unit_two at h
  split at h
  · rename_i d
    unfold unitF at h
    unfold rd_unit_two
    walk_at "dd"
    rw [fmod_pos _ (by decide)]
    refine ⟨by decide, fun z => ⟨divOk (by decide) (n := 3) (by decide) (by decide), ?_⟩, fun z => ⟨divOk (by decide) (n := 3) (by decide) (by decide), ?_⟩⟩
    · rw [if_pos z] at h
      rw [fdiv_pos _ (by decide)]
      exact h
    · rw [if_neg z] at h
      rw [fdiv_pos _ (by decide)]
      exact h
  · exact h.elim
theorem spx_unit_two {d : Int} {R : D → Prop} : sp_unit_two [.int d] R = R (formD (unitF d)) := rfl
local macro_rules | `(tactic| walk_at "d1") => `(tactic| try simp only [dSeq, dSkip, dPass, dRet, dRetN, dDrop, dCond, dAsg, gNm, gTp, dOwn, dOwnL, dPar, dAug, dApp, dExt, dFrz, dFor, dLc, dBreak, dCont, dVar, dC, dOp, dT, dIsi, dNeg, dNot, dTNot, dAnd, dOr, dTAnd, dTOr, dIf, dCh, dNil, dCons, dTup, dLst, dIxO, dB, dCall, dCallW, dItems, dRng1, dRng2, dYes, fnE, startE, startW, startS, dLenO, dLenS, dIxS, dSl, dPt, dNo, wipeE, addD_int, addD_str, addD_tup, addD_lst, subD_int, mulD_int, mulD_tup, mulD_lst, fdivD_int, modD_int, powD_int, shlD_int, shrD_int, andD_int, ltD_int, leD_int, gtD_int, geD_int, eqD_ap, neD_ap, isD_ap, isNotD_ap, isNon_none, isNon_int, isNon_bool, isNon_str, isNon_tup, isNon_lst, isInt_none, isInt_int, isInt_bool, isInt_str, isInt_tup, isInt_lst, isBool_none, isBool_int, isBool_bool, isBool_str, isBool_tup, isBool_lst, isStr_none, isStr_int, isStr_bool, isStr_str, isStr_tup, isStr_lst, isTup_none, isTup_int, isTup_bool, isTup_str, isTup_tup, isTup_lst, isLst_lst, Cnd_true, Cnd_false, Cnd_not, Cnd_dec, asB_bool, forall_const, true_implies, false_implies, implies_true, decide_true, decide_false, Classical.not_not, negD_int, notD_bool, onVal_val, onOwn_own, onDic_dic, onScr_scr, onWv_wv, onInt_int, onTup_tup, onLst_lst, onItems_lst, onItems_tup, frz1_own, frz1_val, frz1_un, ixD_lst, ixD_tup, ixL_int, optD_some, optI_some, absD_int, intD_int, intD_bool, lenD_lst, lenD_tup, lenD_str, tupleD_lst, tupleD_tup, listD_lst, listD_tup, min2D_int, max2D_int, sumD_ints, allD_bls, anyD_bls, slD_lst, slD_tup, slD_str, gNl_nil, gCs_cons, par2_two, seq1_lst, seq1_tup, rng1D_int, rng2D_int, gt_z, gt_s, sp_next_int, set_z, set_s, List.map_cons, List.map_nil, List.length_cons, List.length_nil, List.cons_append, List.nil_append, List.replicate, Nat.reduceAdd, Nat.reduceSub, Nat.zero_add, shaped_int, shaped_bool, shaped_none, shaped_listI, shaped_tupI, shaped_nilL, shaped_nilT, eqv_int, eqv_bool, eqv_str, eqv_none, eqv_list_nil, List.isEmpty_nil, List.isEmpty_cons, Bool.true_eq_false, Bool.false_eq_true, decide_eq_true_eq, and_self, true_and, and_true, not_dec, Bool.not_eq_true', decide_eq_false_iff_not, atI_0, atI_1, atI_2, ite_true, ite_false, if_true, if_false, reduceIte, Bool.not_true, Bool.not_false, not_true_eq_false, not_false_eq_true, List.set_cons_zero, List.set_cons_succ, dPar3, dRev, par3_three, sortedD_ints, revD_tup, two_nat, one_nat, three_nat, dCh3, dOwnC, dPutPar, putPar_two, dZip2, zip2D_lst, zip2D_tup, dPut, isBD_bl, isNotBD_bl, dNewO, dPutO, dSortedO, putKD_int, dPar3O, dParO2, par3O_two, parO2_one, minLD_lst, dKeysW, rdPairs_nil, rdPairs_cons, onPair_ii, revD_lst])
local macro_rules | `(tactic| walk_at "dd") => `(tactic| (walk_at "d1"; repeat (with_reducible (refine then_intro ?_); walk_at "d1")))
def rd_law_alike (self : Lay.Spec) : DTS :=
  (dSeq (dCond (dT (dIsi isTupD (dVar 1))) (dSeq (dCond (dTOr (dTNot (dT (dIsi isTupD (dVar 0)))) (dT (dOp neD (dB lenD (dCons (dVar 0) dNil)) (dB lenD (dCons (dVar 1) dNil))))) (dRet (dC (.bool false))) dSkip) (dRet (dOp eqD (dLc false (dRng1 (dCons (dB lenD (dCons (dVar 1) dNil)) dNil)) (gNm 2) (dTNot (dT (dCall self (dCons (dOp ixD (dVar 0) (dVar 2)) (dCons (dOp ixD (dVar 1) (dVar 2)) dNil))))) (dVar 2) [2]) (dLst dNil)))) dSkip) (dSeq (dCond (dT (dOp isD (dVar 1) (dC .none))) (dRet (dOp isD (dVar 0) (dC .none))) dSkip) (dSeq (dCond (dT (dIsi isBoolD (dVar 1))) (dRet (dAnd (dIsi isBoolD (dVar 0)) (dOp eqD (dVar 0) (dVar 1)))) dSkip) (dSeq (dCond (dT (dIsi isIntD (dVar 1))) (dRet (dAnd (dIsi isIntD (dVar 0)) (dAnd (dNot (dIsi isBoolD (dVar 0))) (dOp eqD (dVar 0) (dVar 1))))) dSkip) (dRet (dAnd (dIsi isStrD (dVar 0)) (dOp eqD (dVar 0) (dVar 1))))))))
mutual
/-- whether a value is this one (the first), part by part -/
def alike : D → D → Bool
  | .tuple ds, t => match t with | .tuple es => alikeAll ds es | _ => false
  | .none, t => isNon t
  | .bool b, t => match t with | .bool c => decide (c = b) | _ => false
  | .int b, t => match t with | .int c => decide (c = b) | _ => false
  | .str b, t => match t with | .str c => decide (c = b) | _ => false
  | .list _, _ => false
  | .dict _, _ => false
def alikeAll : List D → List D → Bool
  | [], es => es.isEmpty
  | d :: ds, es => match es with | e :: r => alike d e && alikeAll ds r | [] => false
end
mutual
def plainD : D → Bool
  | .tuple ds => decide (ds.length ≤ 1000000) && plainAll ds
  | .list _ => false
  | .dict _ => false
  | _ => true
def plainAll : List D → Bool
  | [] => true
  | d :: ds => plainD d && plainAll ds
end
def spn_law_alike (n : Nat) : Lay.Spec := fun ds R => match ds with
  | [told, due] => (PyData.depth due < n ∧ plainD due = true ∧ PyData.canLay0 due = true ∧ PyData.canLay0 told = true) ∧ R (.bool (alike due told))
  | _ => False
def sp_law_alike : Lay.Spec := spn_law_alike 8
theorem plainAll_mem : ∀ {ds : List D} {i : Nat} {d : D}, plainAll ds = true → ds[i]? = some d → plainD d = true
  | [], i, d, _, e => by simp at e
  | x :: r, 0, d, h, e => by
    simp at e; subst e
    rw [plainAll, Bool.and_eq_true] at h
    exact h.1
  | x :: r, i + 1, d, h, e => by
    rw [plainAll, Bool.and_eq_true] at h
    exact plainAll_mem h.2 (by simpa using e)
theorem canLayAll_mem : ∀ {ds : List D} {i : Nat} {d : D}, PyData.canLayAll0 ds = true → ds[i]? = some d → PyData.canLay0 d = true
  | [], i, d, _, e => by simp at e
  | x :: r, 0, d, h, e => by
    simp at e; subst e
    rw [cl_cons, Bool.and_eq_true] at h
    exact h.1
  | x :: r, i + 1, d, h, e => by
    rw [cl_cons, Bool.and_eq_true] at h
    exact canLayAll_mem h.2 (by simpa using e)
theorem depthAll_mem : ∀ {ds : List D} {i : Nat} {d : D}, ds[i]? = some d → PyData.depth d ≤ PyData.depthAll ds
  | [], i, d, e => by simp at e
  | x :: r, 0, d, e => by
    simp at e; subst e
    rw [dp_cons]; exact Nat.le_max_left _ _
  | x :: r, i + 1, d, e => by
    rw [dp_cons]
    exact Nat.le_trans (depthAll_mem (i := i) (by simpa using e)) (Nat.le_max_right _ _)
theorem alikeAll_iff : ∀ (ds es : List D), alikeAll ds es = true ↔ ds.length = es.length ∧ ∀ (i : Nat) (d e : D), ds[i]? = some d → es[i]? = some e → alike d e = true
  | [], [] => by simp [alikeAll]
  | [], _ :: _ => by simp [alikeAll]
  | _ :: _, [] => by simp [alikeAll]
  | d :: ds, e :: es => by
    rw [alikeAll, Bool.and_eq_true, alikeAll_iff ds es]
    refine ⟨fun ⟨h1, h2, h3⟩ => ⟨by simp [h2], fun i x y hx hy => ?_⟩, fun ⟨h1, h2⟩ => ⟨h2 0 d e rfl rfl, by simpa using h1, fun i x y hx hy => h2 (i + 1) x y (by simpa using hx) (by simpa using hy)⟩⟩
    cases i with
    | zero => simp at hx hy; subst hx hy; exact h1
    | succ i => exact h3 i x y (by simpa using hx) (by simpa using hy)
theorem filter_ints (xs : List D) (f : D → Option D) (h : ∀ d ∈ xs, f d = none ∨ ∃ i, f d = some (.int i)) : ∃ ns : List Int, xs.filterMap f = ns.map .int := by
  induction xs with
  | nil => exact ⟨[], rfl⟩
  | cons x xs ih =>
    obtain ⟨ns, e⟩ := ih fun d hd => h d (List.mem_cons_of_mem _ hd)
    rcases h x List.mem_cons_self with q | ⟨i, q⟩
    · exact ⟨ns, by rw [List.filterMap_cons_none q, e]⟩
    · exact ⟨i :: ns, by rw [List.filterMap_cons_some q, e]; rfl⟩
theorem shaped_of {d : D} (h1 : PyData.canLay0 d = true) (h2 : PyData.depth d ≤ 64) : SeqAt.shaped d = true := by
  unfold SeqAt.shaped
  rw [h1, decide_eq_true h2]; rfl
def alikeF (es ts : List D) : D → Option D := fun d => match d with
  | .int k => (match es[k.toNat]?, ts[k.toNat]? with
    | some e, some t => if alike e t = true then none else some (.int k)
    | _, _ => none)
  | _ => none
theorem ok_law_alike (n : Nat) : ∀ ds R, spn_law_alike (n + 1) ds R → rd_law_alike (spn_law_alike n) (fnE R) (startE 3 ds) := by
  intro ds R h
  unfold spn_law_alike at h
  split at h
  · rename_i told due
    obtain ⟨⟨hd, hp, hc, ht⟩, h⟩ := h
    unfold rd_law_alike
    cases due with
    | list _ => cases hp
    | dict _ => cases hp
    | none =>
      walk_at "dd"
      exact h
    | bool b =>
      walk_at "dd"
      cases told <;> walk_at "dd" <;> exact h
    | int b =>
      walk_at "dd"
      cases told <;> walk_at "dd" <;> exact h
    | str b =>
      walk_at "dd"
      cases told <;> walk_at "dd" <;> first | exact h | exact ⟨⟨shaped_of ht (Nat.zero_le _), shaped_of hc (Nat.zero_le _)⟩, h⟩
    | tuple es =>
      cases told with
      | tuple ts =>
        walk_at "dd"
        refine And.symm ⟨fun hl => ?_, fun hl => ?_⟩
        · have : alike (.tuple es) (.tuple ts) = false := by
            rw [alike, Bool.eq_false_iff]
            exact fun z => hl (by have := (alikeAll_iff es ts).mp z; omega)
          rw [this] at h
          exact h
        · have hl : ts.length = es.length := by omega
          walk_at "dd"
          rw [plainD, Bool.and_eq_true, decide_eq_true_eq] at hp
          obtain ⟨hp1, hp2⟩ := hp
          rw [cl_tup] at hc ht
          rw [dp_tup] at hd
          refine ⟨by omega, ?_⟩
          have en : ((es.length : Int)).toNat = es.length := by omega
          rw [en]
          refine lc_fun (alikeF es ts) (fun _ => ?_) (fun d hm P hP => ?_) ?_
          · rw [rangeD_length, sizeLine_eq]
            omega
          · obtain ⟨i, hi⟩ := List.getElem?_of_mem hm
            obtain ⟨h1, rfl⟩ := rangeD_get hi
            walk_at "dd"
            have h2 : i < ts.length := by omega
            have q1 : ts[i]? = some ts[i] := List.getElem?_eq_getElem h2
            have q2 : es[i]? = some es[i] := List.getElem?_eq_getElem h1
            have e0 : (0 : Int) + (i : Int) = (i : Int) := by omega
            rw [e0] at hP ⊢
            rw [atI_nat q1, atI_nat q2]
            simp only [alikeF, Int.toNat_natCast, q1, q2] at hP
            walk_at "dd"
            show spn_law_alike n [ts[i], es[i]] _
            refine ⟨⟨?_, plainAll_mem hp2 q2, canLayAll_mem hc q2, canLayAll_mem ht q1⟩, ?_⟩
            · have := depthAll_mem q2
              omega
            · walk_at "dd"
              cases hq : alike es[i] ts[i] with
              | true => rw [hq] at hP; exact hP
              | false => rw [hq] at hP; exact hP
          · obtain ⟨ns, hns⟩ := filter_ints (rangeD 0 es.length) (alikeF es ts) (fun d hm => by
              obtain ⟨i, hi⟩ := List.getElem?_of_mem hm
              obtain ⟨h1, rfl⟩ := rangeD_get hi
              simp only [alikeF]
              split
              · split
                · exact .inl rfl
                · exact .inr ⟨_, rfl⟩
              · exact .inl rfl)
            have key : (((rangeD 0 es.length).filterMap (alikeF es ts)).isEmpty) = alike (.tuple es) (.tuple ts) := by
              rw [alike, Bool.eq_iff_iff, List.isEmpty_iff, alikeAll_iff, List.filterMap_eq_nil_iff]
              refine ⟨fun z => ⟨hl.symm, fun i d e hx hy => ?_⟩, fun ⟨_, z⟩ d hm => ?_⟩
              · have hi : i < es.length := (List.getElem?_eq_some_iff.mp hx).1
                have hm : PyData.int (i : Int) ∈ rangeD 0 es.length := by
                  unfold rangeD
                  exact List.mem_map.mpr ⟨i, List.mem_range.mpr hi, by simp⟩
                have := z _ hm
                simp only [alikeF, Int.toNat_natCast, hx, hy] at this
                cases hq : alike d e with
                | true => rfl
                | false => rw [hq] at this; simp at this
              · obtain ⟨i, hi⟩ := List.getElem?_of_mem hm
                obtain ⟨h1, rfl⟩ := rangeD_get hi
                have h2 : i < ts.length := by omega
                have q1 : ts[i]? = some ts[i] := List.getElem?_eq_getElem h2
                have q2 : es[i]? = some es[i] := List.getElem?_eq_getElem h1
                have e0 : ((0 : Int) + (i : Int)).toNat = i := by omega
                simp only [alikeF, e0, q1, q2, z i _ _ q2 q1, if_true]
            rw [← key, ← eqv_list_nil, hns] at h
            rw [hns]
            exact ⟨shaped_listI ns, h⟩
      | _ => walk_at "dd"; exact h
  · exact h.elim
theorem no_law_alike : ∀ ds R, spn_law_alike 0 ds R → False := by
  intro ds R h
  unfold spn_law_alike at h
  split at h
  · exact absurd h.1.1 (Nat.not_lt_zero _)
  · exact h
local macro_rules | `(tactic| walk_at "d1") => `(tactic| try simp only [dSeq, dSkip, dPass, dRet, dRetN, dDrop, dCond, dAsg, gNm, gTp, dOwn, dOwnL, dPar, dAug, dApp, dExt, dFrz, dFor, dLc, dBreak, dCont, dVar, dC, dOp, dT, dIsi, dNeg, dNot, dTNot, dAnd, dOr, dTAnd, dTOr, dIf, dCh, dNil, dCons, dTup, dLst, dIxO, dB, dCall, dCallW, dItems, dRng1, dRng2, dYes, fnE, startE, startW, startS, dLenO, dLenS, dIxS, dSl, dPt, dNo, wipeE, addD_int, addD_str, addD_tup, addD_lst, subD_int, mulD_int, mulD_tup, mulD_lst, fdivD_int, modD_int, powD_int, shlD_int, shrD_int, andD_int, ltD_int, leD_int, gtD_int, geD_int, eqD_ap, neD_ap, isD_ap, isNotD_ap, isNon_none, isNon_int, isNon_bool, isNon_str, isNon_tup, isNon_lst, isInt_none, isInt_int, isInt_bool, isInt_str, isInt_tup, isInt_lst, isBool_none, isBool_int, isBool_bool, isBool_str, isBool_tup, isBool_lst, isStr_none, isStr_int, isStr_bool, isStr_str, isStr_tup, isStr_lst, isTup_none, isTup_int, isTup_bool, isTup_str, isTup_tup, isTup_lst, isLst_lst, Cnd_true, Cnd_false, Cnd_not, Cnd_dec, asB_bool, forall_const, true_implies, false_implies, implies_true, decide_true, decide_false, Classical.not_not, negD_int, notD_bool, onVal_val, onOwn_own, onDic_dic, onScr_scr, onWv_wv, onInt_int, onTup_tup, onLst_lst, onItems_lst, onItems_tup, frz1_own, frz1_val, frz1_un, ixD_lst, ixD_tup, ixL_int, optD_some, optI_some, absD_int, intD_int, intD_bool, lenD_lst, lenD_tup, lenD_str, tupleD_lst, tupleD_tup, listD_lst, listD_tup, min2D_int, max2D_int, sumD_ints, allD_bls, anyD_bls, slD_lst, slD_tup, slD_str, gNl_nil, gCs_cons, par2_two, seq1_lst, seq1_tup, rng1D_int, rng2D_int, gt_z, gt_s, sp_next_int, set_z, set_s, List.map_cons, List.map_nil, List.length_cons, List.length_nil, List.cons_append, List.nil_append, List.replicate, Nat.reduceAdd, Nat.reduceSub, Nat.zero_add, shaped_int, shaped_bool, shaped_none, shaped_listI, shaped_tupI, shaped_nilL, shaped_nilT, eqv_int, eqv_bool, eqv_str, eqv_none, eqv_list_nil, List.isEmpty_nil, List.isEmpty_cons, Bool.true_eq_false, Bool.false_eq_true, decide_eq_true_eq, and_self, true_and, and_true, not_dec, Bool.not_eq_true', decide_eq_false_iff_not, atI_0, atI_1, atI_2, ite_true, ite_false, if_true, if_false, reduceIte, Bool.not_true, Bool.not_false, not_true_eq_false, not_false_eq_true, List.set_cons_zero, List.set_cons_succ, dPar3, dRev, par3_three, sortedD_ints, revD_tup, two_nat, one_nat, three_nat, dCh3, dOwnC, dPutPar, putPar_two, dZip2, zip2D_lst, zip2D_tup, dPut, isBD_bl, isNotBD_bl, dNewO, dPutO, dSortedO, putKD_int, dPar3O, dParO2, par3O_two, parO2_one, minLD_lst, dKeysW, rdPairs_nil, rdPairs_cons, onPair_ii, revD_lst])
local macro_rules | `(tactic| walk_at "dd") => `(tactic| (walk_at "d1"; repeat (with_reducible (refine then_intro ?_); walk_at "d1")))
theorem alike_int {i j : Int} (e : i = j) {R : D → Prop} (h : R (.bool true)) : sp_law_alike [.int i, .int j] R := by
  subst e
  refine ⟨⟨(by decide : 0 < 8), rfl, rfl, rfl⟩, ?_⟩
  have : alike (.int i) (.int i) = true := decide_eq_true rfl
  rw [this]
  exact h
theorem alike_bl {i j : Bool} (e : i = j) {R : D → Prop} (h : R (.bool true)) : sp_law_alike [.bool i, .bool j] R := by
  subst e
  refine ⟨⟨(by decide : 0 < 8), rfl, rfl, rfl⟩, ?_⟩
  have : alike (.bool i) (.bool i) = true := decide_eq_true rfl
  rw [this]
  exact h
theorem alike_non {R : D → Prop} (h : R (.bool true)) : sp_law_alike [.none, .none] R := ⟨⟨(by decide : 0 < 8), rfl, rfl, rfl⟩, h⟩
mutual
/-- tuples of whole numbers, truths, texts, None, n deep at the most -/
def tame : D → Nat → Bool
  | .tuple ds, n => decide (0 < n) && decide (ds.length ≤ 1000000) && tameAll ds (n - 1)
  | .list _, _ => false
  | .dict _, _ => false
  | .str z, _ => PyData.canLay0 (.str z)
  | _, _ => true
def tameAll : List D → Nat → Bool
  | [], _ => true
  | d :: ds, n => tame d n && tameAll ds n
end
theorem tameAll_of {n : Nat} : ∀ {ds : List D}, (∀ d ∈ ds, tame d n = true) → tameAll ds n = true
  | [], _ => rfl
  | d :: ds, h => by
    rw [tameAll, h d List.mem_cons_self, tameAll_of fun e he => h e (List.mem_cons_of_mem _ he)]
    rfl
theorem tame_map {α : Type} {n : Nat} {f : α → D} (h : ∀ x, tame (f x) n = true) (xs : List α) (hl : xs.length ≤ 1000000) : tame (.tuple (xs.map f)) (n + 1) = true := by
  rw [tame, Nat.add_sub_cancel, tameAll_of (fun d hd => by obtain ⟨x, _, rfl⟩ := List.mem_map.mp hd; exact h x), List.length_map, decide_eq_true hl, decide_eq_true (Nat.succ_pos n)]
  rfl
mutual
theorem tame_is : ∀ (d : D) (n : Nat), tame d n = true → alike d d = true ∧ plainD d = true ∧ PyData.canLay0 d = true ∧ PyData.depth d ≤ n
  | .tuple ds, n, h => by
    rw [tame, Bool.and_eq_true, Bool.and_eq_true] at h
    obtain ⟨h1, h2, h3, h4⟩ := tameAll_is ds (n - 1) h.2
    have h0 := of_decide_eq_true h.1.1
    refine ⟨by rw [alike]; exact h1, by rw [plainD, h.1.2, h2]; rfl, h3, ?_⟩
    rw [dp_tup]
    omega
  | .list _, _, h => by cases h
  | .dict _, _, h => by cases h
  | .none, _, _ => ⟨rfl, rfl, rfl, Nat.zero_le _⟩
  | .int i, _, _ => ⟨by rw [alike]; exact decide_eq_true rfl, rfl, rfl, Nat.zero_le _⟩
  | .bool i, _, _ => ⟨by rw [alike]; exact decide_eq_true rfl, rfl, rfl, Nat.zero_le _⟩
  | .str i, _, h => ⟨by rw [alike]; exact decide_eq_true rfl, rfl, h, Nat.zero_le _⟩
theorem tameAll_is : ∀ (ds : List D) (n : Nat), tameAll ds n = true → alikeAll ds ds = true ∧ plainAll ds = true ∧ PyData.canLayAll0 ds = true ∧ PyData.depthAll ds ≤ n
  | [], n, _ => ⟨rfl, rfl, rfl, Nat.zero_le _⟩
  | d :: ds, n, h => by
    rw [tameAll, Bool.and_eq_true] at h
    obtain ⟨a1, a2, a3, a4⟩ := tame_is d n h.1
    obtain ⟨b1, b2, b3, b4⟩ := tameAll_is ds n h.2
    refine ⟨by rw [alikeAll, a1, b1]; rfl, by rw [plainAll, a2, b2]; rfl, by rw [cl_cons, a3, b3]; rfl, ?_⟩
    rw [PyData.depthAll]
    exact Nat.max_le.mpr ⟨a4, b4⟩
end
theorem alike_self {d : D} (n : Nat) (t : tame d n = true) {R : D → Prop} (h : R (.bool true)) (hn : n < 8 := by decide) : sp_law_alike [d, d] R := by
  obtain ⟨h1, h2, h3, h4⟩ := tame_is d n t
  refine ⟨⟨by omega, h2, h3, h3⟩, ?_⟩
  rw [h1]
  exact h
theorem alike_eq {d e : D} (n : Nat) (t : tame d n = true) (q : d = e) {R : D → Prop} (h : R (.bool true)) (hn : n < 8 := by decide) : sp_law_alike [d, e] R := by
  subst q
  exact alike_self n t h hn
theorem tame_sh {d : D} (n : Nat) (t : tame d n = true) (hn : n ≤ 64 := by decide) : SeqAt.shaped d = true := by
  obtain ⟨_, _, h3, h4⟩ := tame_is d n t
  exact shaped_of h3 (by omega)
theorem tame_eqv {d : D} (n : Nat) (t : tame d n = true) : PyData.eqv d d = true := PySem.SeqAt.eqv_refl d (tame_is d n t).2.2.1
local macro_rules | `(tactic| walk_at "d1") => `(tactic| try simp only [dSeq, dSkip, dPass, dRet, dRetN, dDrop, dCond, dAsg, gNm, gTp, dOwn, dOwnL, dPar, dAug, dApp, dExt, dFrz, dFor, dLc, dBreak, dCont, dVar, dC, dOp, dT, dIsi, dNeg, dNot, dTNot, dAnd, dOr, dTAnd, dTOr, dIf, dCh, dNil, dCons, dTup, dLst, dIxO, dB, dCall, dCallW, dItems, dRng1, dRng2, dYes, fnE, startE, startW, startS, dLenO, dLenS, dIxS, dSl, dPt, dNo, wipeE, addD_int, addD_str, addD_tup, addD_lst, subD_int, mulD_int, mulD_tup, mulD_lst, fdivD_int, modD_int, powD_int, shlD_int, shrD_int, andD_int, ltD_int, leD_int, gtD_int, geD_int, eqD_ap, neD_ap, isD_ap, isNotD_ap, isNon_none, isNon_int, isNon_bool, isNon_str, isNon_tup, isNon_lst, isInt_none, isInt_int, isInt_bool, isInt_str, isInt_tup, isInt_lst, isBool_none, isBool_int, isBool_bool, isBool_str, isBool_tup, isBool_lst, isStr_none, isStr_int, isStr_bool, isStr_str, isStr_tup, isStr_lst, isTup_none, isTup_int, isTup_bool, isTup_str, isTup_tup, isTup_lst, isLst_lst, Cnd_true, Cnd_false, Cnd_not, Cnd_dec, asB_bool, forall_const, true_implies, false_implies, implies_true, decide_true, decide_false, Classical.not_not, negD_int, notD_bool, onVal_val, onOwn_own, onDic_dic, onScr_scr, onWv_wv, onInt_int, onTup_tup, onLst_lst, onItems_lst, onItems_tup, frz1_own, frz1_val, frz1_un, ixD_lst, ixD_tup, ixL_int, optD_some, optI_some, absD_int, intD_int, intD_bool, lenD_lst, lenD_tup, lenD_str, tupleD_lst, tupleD_tup, listD_lst, listD_tup, min2D_int, max2D_int, sumD_ints, allD_bls, anyD_bls, slD_lst, slD_tup, slD_str, gNl_nil, gCs_cons, par2_two, seq1_lst, seq1_tup, rng1D_int, rng2D_int, gt_z, gt_s, sp_next_int, set_z, set_s, List.map_cons, List.map_nil, List.length_cons, List.length_nil, List.cons_append, List.nil_append, List.replicate, Nat.reduceAdd, Nat.reduceSub, Nat.zero_add, shaped_int, shaped_bool, shaped_none, shaped_listI, shaped_tupI, shaped_nilL, shaped_nilT, eqv_int, eqv_bool, eqv_str, eqv_none, eqv_list_nil, List.isEmpty_nil, List.isEmpty_cons, Bool.true_eq_false, Bool.false_eq_true, decide_eq_true_eq, and_self, true_and, and_true, not_dec, Bool.not_eq_true', decide_eq_false_iff_not, atI_0, atI_1, atI_2, ite_true, ite_false, if_true, if_false, reduceIte, Bool.not_true, Bool.not_false, not_true_eq_false, not_false_eq_true, List.set_cons_zero, List.set_cons_succ, dPar3, dRev, par3_three, sortedD_ints, revD_tup, two_nat, one_nat, three_nat, dCh3, dOwnC, dPutPar, putPar_two, dZip2, zip2D_lst, zip2D_tup, dPut, isBD_bl, isNotBD_bl, dNewO, dPutO, dSortedO, putKD_int, dPar3O, dParO2, par3O_two, parO2_one, minLD_lst, dKeysW, rdPairs_nil, rdPairs_cons, onPair_ii, revD_lst, spx_common, spx_least_two, spx_all_two, spx_unit_two, spx_law_common_v1, spx_law_all])
local macro_rules | `(tactic| walk_at "dd") => `(tactic| (walk_at "d1"; repeat (with_reducible (refine then_intro ?_); walk_at "d1")))
def rd_law_k54_b1 : DTS :=
  (dSeq (dAsg (dCall sp_law_all (dCons (dVar 4) dNil)) (gNm 5)) (dSeq (dCond (dTNot (dT (dCall sp_law_alike (dCons (dCall sp_all_two (dCons (dVar 4) dNil)) (dCons (dB tupleD (dCons (dVar 5) dNil)) dNil))))) (dRet (dC (.bool false))) dSkip) (dCond (dTNot (dT (dCall sp_law_alike (dCons (dCall sp_unit_two (dCons (dVar 4) dNil)) (dCons (dOp ixD (dLc true (dItems (dVar 5)) (gNm 6) (dT (dOp eqD (dOp ixD (dVar 6) (dC (.int 0))) (dC (.int 1)))) (dVar 6) [6]) (dC (.int 0))) dNil))))) (dRet (dC (.bool false))) dSkip)))
def rd_law_k54_b2 : DTS :=
  (dSeq (dAsg (dOp addD (dC (.int 1)) (dCallW 1 sp_next (dCons (dC (.int 150)) dNil))) (gNm 3)) (dFor (dItems (dTup (dCons (dOp mulD (dNeg (dC (.int 4))) (dVar 3)) (dCons (dOp subD (dC (.int 1)) (dOp mulD (dC (.int 4)) (dVar 3))) dNil)))) (gNm 4) rd_law_k54_b1))
def rd_law_k54 : DTS :=
  (dSeq (dFor (dRng1 (dCons (dC (.int 4)) dNil)) (gNm 2) rd_law_k54_b2) (dRet (dCall sp_law_alike (dCons (dCall sp_all_two (dCons (dNeg (dC (.int 23))) dNil)) (dCons (dTup (dCons (dTup (dCons (dC (.int 1)) (dCons (dC (.int 1)) (dCons (dC (.int 6)) dNil)))) (dCons (dTup (dCons (dC (.int 2)) (dCons (dNeg (dC (.int 1))) (dCons (dC (.int 3)) dNil)))) (dCons (dTup (dCons (dC (.int 2)) (dCons (dC (.int 1)) (dCons (dC (.int 3)) dNil)))) dNil)))) dNil)))))
def unI (l : List Int) : Form := match l with | [a, b, c] => (a, b, c) | _ => (0, 0, 0)
theorem forms_of {ms : List (List Int)} {F : List Form} (h : ms.Perm (F.map formI)) : ∃ fs : List Form, ms = fs.map formI ∧ fs.Perm F := by
  refine ⟨ms.map unI, ?_, ?_⟩
  · rw [List.map_map]
    refine (List.map_id ms).symm.trans (List.map_congr_left fun m hm => ?_)
    obtain ⟨f, _, rfl⟩ := List.mem_map.mp (h.mem_iff.mp hm)
    rfl
  · have := h.map unI
    rw [List.map_map] at this
    have e : F.map (unI ∘ formI) = F := (List.map_congr_left fun f _ => rfl).trans (List.map_id F)
    rwa [e] at this
theorem ok_law_k54 : rd_law_k54 (fnE fun d => d = .bool true) (.un :: .wv :: List.replicate 5 .un) := by
  unfold rd_law_k54
  walk_at "dd"
  refine ⟨by decide, ?_⟩
  refine for_by (fun (s : Sl × Sl × Sl × Sl × Sl) => [.un, .wv, s.1, s.2.1, s.2.2.1, s.2.2.2.1, s.2.2.2.2]) (fun _ _ => True) (.un, .un, .un, .un, .un) rfl trivial ?_ ?_
  · rintro i d hd ⟨u1, u2, u3, u4, u5⟩ _ bk
    unfold rd_law_k54_b2
    walk_at "dd"
    refine ⟨by decide, fun n n0 n1 _ => ?_⟩
    refine ⟨mulOk (x := -4) (n := 3) (m := 25) (by decide) (by omega) (by decide), mulOk (x := 4) (n := 3) (m := 25) (by decide) (by omega) (by decide), ?_⟩
    refine for_by (fun (s : Sl × Sl × Sl) => [.un, .wv, .val d, .val (.int (1 + n)), s.1, s.2.1, s.2.2]) (fun _ _ => True) (u3, u4, u5) rfl trivial ?_ ?_
    · rintro j e he ⟨v1, v2, v3⟩ _ bk2
      obtain ⟨d, rfl, d0, dl, d4⟩ : ∃ d : Int, e = .int d ∧ d < 0 ∧ d.natAbs ≤ 600 ∧ (d % 4 = 0 ∨ d % 4 = 1) := by
        have hm := List.mem_of_getElem? he
        simp only [List.mem_cons, List.not_mem_nil, or_false] at hm
        rcases hm with rfl | rfl
        · exact ⟨_, rfl, by omega, by omega, by omega⟩
        · exact ⟨_, rfl, by omega, by omega, by omega⟩
      unfold rd_law_k54_b1
      walk_at "dd"
      refine ⟨⟨d0, by omega⟩, fun ms h1 h2 => ?_⟩
      walk_at "dd"
      refine ⟨⟨d0, by omega⟩, fun ms' h3 h4 => ?_⟩
      have e2 : ms' = ms := lex_unique (d := 3) (h3.trans h1.symm) (fun x hx => by obtain ⟨f, _, rfl⟩ := List.mem_map.mp (h3.mem_iff.mp hx); rfl) h4 h2
      subst e2
      have hlen : ms'.length ≤ 1000000 := by
        rw [h1.length_eq, List.length_map]
        have := allF_len d 600 (by omega) ((-d).toNat + 1 - 1) 1 rfl
        have h2 : ((-d).toNat + 1 - 1) * (2 * 600) ≤ 600 * (2 * 600) := Nat.mul_le_mul_right _ (by omega)
        omega
      obtain ⟨fs, rfl, hp⟩ := forms_of h1
      refine alike_self 2 ?_ ?_
      · rw [List.map_map]
        rw [List.length_map] at hlen
        exact tame_map (n := 1) (f := formD) (fun f => rfl) _ hlen
      walk_at "dd"
      rw [List.map_map]
      have efm : fs.filterMap (fun f : Form => if f.1 = 1 then some f else none) = fs.filter (fun f => decide (f.1 = 1)) := by
        clear hp hlen h1 h2 h3 h4
        induction fs with
        | nil => rfl
        | cons f fs ih =>
          by_cases z : f.1 = 1
          · rw [List.filterMap_cons_some (by rw [if_pos z]), List.filter_cons_of_pos (by rw [decide_eq_true z]), ih]
          · rw [List.filterMap_cons_none (by rw [if_neg z]), List.filter_cons_of_neg (by rw [decide_eq_true_eq]; exact z), ih]
      refine lc_map (f := tupD ∘ formI) (k := formD) (p := fun f : Form => if f.1 = 1 then some f else none) (fun z => nomatch z) (fun f hf P hP => ?_) ?_
      · show gNm 6 (formD f) _ _
        have ef : formD f = .tuple [.int f.1, .int f.2.1, .int f.2.2] := rfl
        rw [ef]
        walk_at "dd"
        refine ⟨fun z => ?_, fun z => ?_⟩
        · rw [if_pos z] at hP
          exact hP
        · rw [if_neg z] at hP
          exact hP
      · have hpf := hp.filter (fun f => decide (f.1 = 1))
        rw [allF_first d0 d4] at hpf
        rw [efm, List.perm_singleton.mp hpf]
        walk_at "dd"
        refine alike_self 1 rfl ?_
        walk_at "dd"
        exact ⟨(_, _, _), rfl⟩
    · rintro ⟨v1, v2, v3⟩ _
      exact ⟨(_, _, _, _, _), rfl⟩
  · rintro ⟨u1, u2, u3, u4, u5⟩ _
    walk_at "dd"
    refine ⟨by decide, fun ms h1 h2 => ?_⟩
    have e23 : allF (-23) 1 = [(1, 1, 6), (2, -1, 3), (2, 1, 3)] := by
      rw [allF_more (by decide), allF_more (by decide), allF_stop (by decide)]
      rfl
    rw [e23] at h1
    have e : ms = [[1, 1, 6], [2, -1, 3], [2, 1, 3]] := lex_unique (d := 3) h1 (fun x hx => by obtain ⟨f, _, rfl⟩ := List.mem_map.mp (h1.mem_iff.mp hx); rfl) h2 (by decide)
    subst e
    exact alike_self 2 rfl rfl
local macro_rules | `(tactic| walk_at "d1") => `(tactic| try simp only [dSeq, dSkip, dPass, dRet, dRetN, dDrop, dCond, dAsg, gNm, gTp, dOwn, dOwnL, dPar, dAug, dApp, dExt, dFrz, dFor, dLc, dBreak, dCont, dVar, dC, dOp, dT, dIsi, dNeg, dNot, dTNot, dAnd, dOr, dTAnd, dTOr, dIf, dCh, dNil, dCons, dTup, dLst, dIxO, dB, dCall, dCallW, dItems, dRng1, dRng2, dYes, fnE, startE, startW, startS, dLenO, dLenS, dIxS, dSl, dPt, dNo, wipeE, addD_int, addD_str, addD_tup, addD_lst, subD_int, mulD_int, mulD_tup, mulD_lst, fdivD_int, modD_int, powD_int, shlD_int, shrD_int, andD_int, ltD_int, leD_int, gtD_int, geD_int, eqD_ap, neD_ap, isD_ap, isNotD_ap, isNon_none, isNon_int, isNon_bool, isNon_str, isNon_tup, isNon_lst, isInt_none, isInt_int, isInt_bool, isInt_str, isInt_tup, isInt_lst, isBool_none, isBool_int, isBool_bool, isBool_str, isBool_tup, isBool_lst, isStr_none, isStr_int, isStr_bool, isStr_str, isStr_tup, isStr_lst, isTup_none, isTup_int, isTup_bool, isTup_str, isTup_tup, isTup_lst, isLst_lst, Cnd_true, Cnd_false, Cnd_not, Cnd_dec, asB_bool, forall_const, true_implies, false_implies, implies_true, decide_true, decide_false, Classical.not_not, negD_int, notD_bool, onVal_val, onOwn_own, onDic_dic, onScr_scr, onWv_wv, onInt_int, onTup_tup, onLst_lst, onItems_lst, onItems_tup, frz1_own, frz1_val, frz1_un, ixD_lst, ixD_tup, ixL_int, optD_some, optI_some, absD_int, intD_int, intD_bool, lenD_lst, lenD_tup, lenD_str, tupleD_lst, tupleD_tup, listD_lst, listD_tup, min2D_int, max2D_int, sumD_ints, allD_bls, anyD_bls, slD_lst, slD_tup, slD_str, gNl_nil, gCs_cons, par2_two, seq1_lst, seq1_tup, rng1D_int, rng2D_int, gt_z, gt_s, sp_next_int, set_z, set_s, List.map_cons, List.map_nil, List.length_cons, List.length_nil, List.cons_append, List.nil_append, List.replicate, Nat.reduceAdd, Nat.reduceSub, Nat.zero_add, shaped_int, shaped_bool, shaped_none, shaped_listI, shaped_tupI, shaped_nilL, shaped_nilT, eqv_int, eqv_bool, eqv_str, eqv_none, eqv_list_nil, List.isEmpty_nil, List.isEmpty_cons, Bool.true_eq_false, Bool.false_eq_true, decide_eq_true_eq, and_self, true_and, and_true, not_dec, Bool.not_eq_true', decide_eq_false_iff_not, atI_0, atI_1, atI_2, ite_true, ite_false, if_true, if_false, reduceIte, Bool.not_true, Bool.not_false, not_true_eq_false, not_false_eq_true, List.set_cons_zero, List.set_cons_succ, dPar3, dRev, par3_three, sortedD_ints, revD_tup, two_nat, one_nat, three_nat, dCh3, dOwnC, dPutPar, putPar_two, dZip2, zip2D_lst, zip2D_tup, dPut, isBD_bl, isNotBD_bl, dNewO, dPutO, dSortedO, putKD_int, dPar3O, dParO2, par3O_two, parO2_one, minLD_lst, dKeysW, rdPairs_nil, rdPairs_cons, onPair_ii, revD_lst, spx_size_of_two, spx_law_changed])
local macro_rules | `(tactic| walk_at "dd") => `(tactic| (walk_at "d1"; repeat (with_reducible (refine then_intro ?_); walk_at "d1")))
def rd_law_drawn_v2_b1 : DTS :=
  (dAsg (dCall sp_law_changed (dCons (dVar 1) (dCons (dCallW 0 sp_law_pick (dCons (dLst (dCons (dTup (dCons (dC (.int 1)) (dCons (dC (.int 1)) (dCons (dC (.int 0)) (dCons (dC (.int 1)) dNil))))) (dCons (dTup (dCons (dC (.int 1)) (dCons (dNeg (dC (.int 2))) (dCons (dC (.int 0)) (dCons (dC (.int 1)) dNil))))) (dCons (dTup (dCons (dC (.int 0)) (dCons (dNeg (dC (.int 1))) (dCons (dC (.int 1)) (dCons (dC (.int 0)) dNil))))) (dCons (dTup (dCons (dC (.int 1)) (dCons (dC (.int 0)) (dCons (dC (.int 3)) (dCons (dC (.int 1)) dNil))))) (dCons (dTup (dCons (dC (.int 2)) (dCons (dC (.int 1)) (dCons (dC (.int 1)) (dCons (dC (.int 1)) dNil))))) dNil)))))) dNil)) dNil))) (gNm 1))
def rd_law_drawn_v2 : DTS :=
  (dSeq (dFor (dRng1 (dCons (dCallW 0 sp_next (dCons (dC (.int 4)) dNil)) dNil)) (gNm 2) rd_law_drawn_v2_b1) (dRet (dVar 1)))
def Bd3 (n : Nat) (f : Form) : Prop := f.1.natAbs ≤ n ∧ f.2.1.natAbs ≤ n ∧ f.2.2.natAbs ≤ n
def sp_law_drawn_v2 : Lay.Spec := fun ds R => match ds with
  | [.tuple [.int a, .int b, .int c]] => Bd3 1000 (a, b, c) ∧ ∀ g : Form, Eqv (a, b, c) g → Bd3 8000000 g → R (formD g)
  | _ => False
theorem spx_law_drawn_v2 {a b c : Int} {R : D → Prop} : sp_law_drawn_v2 [.tuple [.int a, .int b, .int c]] R = (Bd3 1000 (a, b, c) ∧ ∀ g : Form, Eqv (a, b, c) g → Bd3 8000000 g → R (formD g)) := rfl
def turnsD : List (Int × Int × Int × Int) := [(1, 1, 0, 1), (1, -2, 0, 1), (0, -1, 1, 0), (1, 0, 3, 1), (2, 1, 1, 1)]
theorem turns_ok : ∀ t ∈ turnsD, t.1 * t.2.2.2 - t.2.1 * t.2.2.1 = 1 ∧ t.1.natAbs ≤ 3 ∧ t.2.1.natAbs ≤ 3 ∧ t.2.2.1.natAbs ≤ 3 ∧ t.2.2.2.natAbs ≤ 3 := by decide
theorem turns_bd {f : Form} {n : Nat} (h : Bd3 n f) : ∀ t ∈ turnsD, Bd3 (20 * n) (act f t.1 t.2.1 t.2.2.1 t.2.2.2) := by
  obtain ⟨h1, h2, h3⟩ := h
  unfold turnsD Bd3 act
  intro t ht
  simp only [List.mem_cons, List.not_mem_nil, or_false] at ht
  rcases ht with rfl | rfl | rfl | rfl | rfl <;> simp only <;> omega
theorem ok_law_drawn_v2 : ∀ ds R, sp_law_drawn_v2 ds R → rd_law_drawn_v2 (fnE R) (startW 3 ds) := by
  intro ds R h
  unfold sp_law_drawn_v2 at h
  split at h
  · rename_i a b c
    obtain ⟨hb, h⟩ := h
    unfold rd_law_drawn_v2
    walk_at "dd"
    refine ⟨by decide, fun r r0 r1 _ => ⟨by omega, ?_⟩⟩
    refine for_by (fun (s : Form × Sl) => [.wv, .val (formD s.1), s.2]) (fun i s => Eqv (a, b, c) s.1 ∧ Bd3 (20 ^ i * 1000) s.1) ((a, b, c), .un) rfl ⟨.refl _, by rw [Nat.pow_zero, Nat.one_mul]; exact hb⟩ ?_ ?_
    · rintro i d hd ⟨f, u⟩ ⟨he, hf⟩ bk
      simp only at he hf
      have hi : i < 3 := by
        have := (rangeD_get hd).1
        omega
      have hp : 20 ^ i ≤ 20 ^ 2 := Nat.pow_le_pow_right (by decide) (by omega)
      unfold rd_law_drawn_v2_b1
      have ef : formD f = .tuple [.int f.1, .int f.2.1, .int f.2.2] := rfl
      rw [ef]
      walk_at "dd"
      refine ⟨List.cons_ne_nil _ _, ?_⟩
      have key : ∀ t ∈ turnsD, sp_law_changed [.tuple [.int f.1, .int f.2.1, .int f.2.2], .tuple [.int t.1, .int t.2.1, .int t.2.2.1, .int t.2.2.2]] fun y => ∃ a' : Form × Sl, [Sl.wv, .val y, .val d] = [.wv, .val (formD a'.1), a'.2] ∧ Eqv (a, b, c) a'.1 ∧ Bd3 (20 ^ (i + 1) * 1000) a'.1 := fun t ht => by
        obtain ⟨e, t1, t2, t3, t4⟩ := turns_ok t ht
        obtain ⟨b1, b2, b3⟩ := hf
        have h2 : 400000 < 2 ^ 30 := by decide
        refine ⟨⟨30, by decide, ⟨by show f.1.natAbs < _; omega, by show f.2.1.natAbs < _; omega, by show f.2.2.natAbs < _; omega⟩, by omega, by omega, by omega, by omega⟩, (_, _), rfl, he.trans ⟨_, _, _, _, e, rfl⟩, ?_⟩
        have := turns_bd ⟨b1, b2, b3⟩ t ht
        rw [← Nat.mul_assoc, Nat.mul_comm 20, ← Nat.pow_succ] at this
        exact this
      have hk : ∀ x ∈ turnsD.map fun t => PyData.tuple [.int t.1, .int t.2.1, .int t.2.2.1, .int t.2.2.2], sp_law_changed [.tuple [.int f.1, .int f.2.1, .int f.2.2], x] fun y => ∃ a' : Form × Sl, [Sl.wv, .val y, .val d] = [.wv, .val (formD a'.1), a'.2] ∧ Eqv (a, b, c) a'.1 ∧ Bd3 (20 ^ (i + 1) * 1000) a'.1 := fun x hx => by
        obtain ⟨t, ht, rfl⟩ := List.mem_map.mp hx
        exact key t ht
      exact hk
    · rintro ⟨f, u⟩ ⟨he, hf⟩
      simp only [rangeD_length] at hf
      walk_at "dd"
      have hp : 20 ^ r.toNat ≤ 20 ^ 3 := Nat.pow_le_pow_right (by decide) (by omega)
      obtain ⟨b1, b2, b3⟩ := hf
      exact h f he ⟨by omega, by omega, by omega⟩
  · exact h.elim
local macro_rules | `(tactic| walk_at "d1") => `(tactic| try simp only [dSeq, dSkip, dPass, dRet, dRetN, dDrop, dCond, dAsg, gNm, gTp, dOwn, dOwnL, dPar, dAug, dApp, dExt, dFrz, dFor, dLc, dBreak, dCont, dVar, dC, dOp, dT, dIsi, dNeg, dNot, dTNot, dAnd, dOr, dTAnd, dTOr, dIf, dCh, dNil, dCons, dTup, dLst, dIxO, dB, dCall, dCallW, dItems, dRng1, dRng2, dYes, fnE, startE, startW, startS, dLenO, dLenS, dIxS, dSl, dPt, dNo, wipeE, addD_int, addD_str, addD_tup, addD_lst, subD_int, mulD_int, mulD_tup, mulD_lst, fdivD_int, modD_int, powD_int, shlD_int, shrD_int, andD_int, ltD_int, leD_int, gtD_int, geD_int, eqD_ap, neD_ap, isD_ap, isNotD_ap, isNon_none, isNon_int, isNon_bool, isNon_str, isNon_tup, isNon_lst, isInt_none, isInt_int, isInt_bool, isInt_str, isInt_tup, isInt_lst, isBool_none, isBool_int, isBool_bool, isBool_str, isBool_tup, isBool_lst, isStr_none, isStr_int, isStr_bool, isStr_str, isStr_tup, isStr_lst, isTup_none, isTup_int, isTup_bool, isTup_str, isTup_tup, isTup_lst, isLst_lst, Cnd_true, Cnd_false, Cnd_not, Cnd_dec, asB_bool, forall_const, true_implies, false_implies, implies_true, decide_true, decide_false, Classical.not_not, negD_int, notD_bool, onVal_val, onOwn_own, onDic_dic, onScr_scr, onWv_wv, onInt_int, onTup_tup, onLst_lst, onItems_lst, onItems_tup, frz1_own, frz1_val, frz1_un, ixD_lst, ixD_tup, ixL_int, optD_some, optI_some, absD_int, intD_int, intD_bool, lenD_lst, lenD_tup, lenD_str, tupleD_lst, tupleD_tup, listD_lst, listD_tup, min2D_int, max2D_int, sumD_ints, allD_bls, anyD_bls, slD_lst, slD_tup, slD_str, gNl_nil, gCs_cons, par2_two, seq1_lst, seq1_tup, rng1D_int, rng2D_int, gt_z, gt_s, sp_next_int, set_z, set_s, List.map_cons, List.map_nil, List.length_cons, List.length_nil, List.cons_append, List.nil_append, List.replicate, Nat.reduceAdd, Nat.reduceSub, Nat.zero_add, shaped_int, shaped_bool, shaped_none, shaped_listI, shaped_tupI, shaped_nilL, shaped_nilT, eqv_int, eqv_bool, eqv_str, eqv_none, eqv_list_nil, List.isEmpty_nil, List.isEmpty_cons, Bool.true_eq_false, Bool.false_eq_true, decide_eq_true_eq, and_self, true_and, and_true, not_dec, Bool.not_eq_true', decide_eq_false_iff_not, atI_0, atI_1, atI_2, ite_true, ite_false, if_true, if_false, reduceIte, Bool.not_true, Bool.not_false, not_true_eq_false, not_false_eq_true, List.set_cons_zero, List.set_cons_succ, dPar3, dRev, par3_three, sortedD_ints, revD_tup, two_nat, one_nat, three_nat, dCh3, dOwnC, dPutPar, putPar_two, dZip2, zip2D_lst, zip2D_tup, dPut, isBD_bl, isNotBD_bl, dNewO, dPutO, dSortedO, putKD_int, dPar3O, dParO2, par3O_two, parO2_one, minLD_lst, dKeysW, rdPairs_nil, rdPairs_cons, onPair_ii, revD_lst, spx_law_d, spx_common, spx_least_two, spx_all_two, spx_law_common_v1, spx_law_all, spx_unit_two, spx_size_of_two, spx_law_changed, spx_law_drawn_v2])
local macro_rules | `(tactic| walk_at "dd") => `(tactic| (walk_at "d1"; repeat (with_reducible (refine then_intro ?_); walk_at "d1")))
theorem form_tame (f : Form) : tame (formD f) 1 = true := rfl
/-- a least form of d, one of the law's list -/
structure FD (d : Int) (f : Form) : Prop where
  mem : f ∈ allF d 1
  pos : 0 < f.1
  red : Red f
  disc : disc f = d
  prim : Nat.gcd (Int.gcd f.1 f.2.1) f.2.2.natAbs = 1
theorem rowF_mem {d : Int} {a : Nat} (a0 : 0 < a) {f : Form} (h : f ∈ rowF d a (bsOf a)) : 0 < f.1 ∧ Red f ∧ disc f = d ∧ Nat.gcd (Int.gcd f.1 f.2.1) f.2.2.natAbs = 1 := by
  unfold rowF at h
  obtain ⟨b, hb, rfl⟩ := List.mem_map.mp h
  have ok := (List.mem_filter.mp hb).2
  unfold okF at ok
  rw [Bool.and_eq_true, Bool.and_eq_true, decide_eq_true_eq, decide_eq_true_eq, decide_eq_true_eq] at ok
  obtain ⟨⟨o1, o2⟩, o3⟩ := ok
  refine ⟨by show (0 : Int) < a; omega, o2, ?_, o3⟩
  unfold disc
  show b * b - 4 * (a : Int) * cOf d a b = d
  have e := Int.mul_ediv_add_emod (b * b - d) (4 * (a : Int))
  unfold cOf
  omega
theorem allF_mem {d : Int} : ∀ (n a : Nat), (-d).toNat + 1 - a = n → 0 < a → ∀ f ∈ allF d a, 0 < f.1 ∧ Red f ∧ disc f = d ∧ Nat.gcd (Int.gcd f.1 f.2.1) f.2.2.natAbs = 1
  | 0, a, h, a0, f, hf => by
    rw [allF_stop (fun z => by have := sq_lt z; omega)] at hf
    cases hf
  | n + 1, a, h, a0, f, hf => by
    by_cases z : 3 * (a : Int) * a ≤ -d
    · rw [allF_more z] at hf
      rcases List.mem_append.mp hf with m | m
      · exact rowF_mem a0 m
      · exact allF_mem n (a + 1) (by omega) (by omega) f m
    · rw [allF_stop z] at hf
      cases hf
theorem fd_of {d : Int} {f : Form} (h : f ∈ allF d 1) : FD d f := by
  obtain ⟨h1, h2, h3, h4⟩ := allF_mem (d := d) _ 1 rfl Nat.one_pos f h
  exact ⟨h, h1, h2, h3, h4⟩
theorem dS_all : ∀ d ∈ dS, d < 0 ∧ -260 ≤ d ∧ (d % 4 = 0 ∨ d % 4 = 1) := by decide
theorem FD.bd {d : Int} {f : Form} (h : FD d f) (hd : -260 ≤ d) : f.1 ≤ 9 ∧ f.2.1.natAbs ≤ 9 ∧ 0 < f.2.2 ∧ f.2.2 ≤ 85 := by
  have h0 := h.pos
  obtain ⟨r1, r2, r3, _⟩ := h.red
  have h1 := red_disc h0 h.red
  rw [h.disc] at h1
  have a9 : f.1 ≤ 9 := by
    rcases (show f.1 ≤ 9 ∨ 10 ≤ f.1 by omega) with z | z
    · exact z
    · have := Int.mul_le_mul z z (by decide) (by omega)
      omega
  have hb := abs_sq_le (a := 9) (b := f.2.1) (by omega) (by omega)
  have e := h.disc
  unfold Lay.disc at e
  have h2 := Int.mul_le_mul_of_nonneg_right (show 4 ≤ 4 * f.1 by omega) (show 0 ≤ f.2.2 by omega)
  exact ⟨a9, by omega, by omega, by omega⟩
theorem FD.bd3 {d : Int} {f : Form} (h : FD d f) (hd : -260 ≤ d) : Bd3 85 f := by
  obtain ⟨h1, h2, h3, h4⟩ := h.bd hd
  have := h.pos
  exact ⟨by omega, by omega, by omega⟩
theorem allF_ne {d : Int} (h0 : d < 0) (h4 : d % 4 = 0 ∨ d % 4 = 1) : allF d 1 ≠ [] := fun e => by
  have := allF_first h0 h4
  rw [e] at this
  cases this
/-- one of the list -/
theorem pick_every {d : Int} (hd : d ∈ dS) {R : D → Prop} (h : ∀ f, FD d f → R (formD f)) : sp_law_all [.int d] fun xs => sp_law_pick [xs] R := by
  obtain ⟨d0, d2, d4⟩ := dS_all d hd
  refine ⟨⟨d0, by omega⟩, fun ms h1 _ => ?_⟩
  obtain ⟨fs, rfl, hp⟩ := forms_of h1
  refine ⟨fun e => ?_, fun x hx => ?_⟩
  · have : fs = [] := by
      have := congrArg List.length e
      rw [List.length_map, List.length_map] at this
      exact List.length_eq_zero_iff.mp this
    subst this
    exact allF_ne d0 d4 (List.nil_perm.mp hp)
  · rw [List.map_map] at hx
    obtain ⟨f, hf, rfl⟩ := List.mem_map.mp hx
    exact h f (fd_of (hp.mem_iff.mp hf))
local macro_rules | `(tactic| walk_at "d1") => `(tactic| try simp only [dSeq, dSkip, dPass, dRet, dRetN, dDrop, dCond, dAsg, gNm, gTp, dOwn, dOwnL, dPar, dAug, dApp, dExt, dFrz, dFor, dLc, dBreak, dCont, dVar, dC, dOp, dT, dIsi, dNeg, dNot, dTNot, dAnd, dOr, dTAnd, dTOr, dIf, dCh, dNil, dCons, dTup, dLst, dIxO, dB, dCall, dCallW, dItems, dRng1, dRng2, dYes, fnE, startE, startW, startS, dLenO, dLenS, dIxS, dSl, dPt, dNo, wipeE, addD_int, addD_str, addD_tup, addD_lst, subD_int, mulD_int, mulD_tup, mulD_lst, fdivD_int, modD_int, powD_int, shlD_int, shrD_int, andD_int, ltD_int, leD_int, gtD_int, geD_int, eqD_ap, neD_ap, isD_ap, isNotD_ap, isNon_none, isNon_int, isNon_bool, isNon_str, isNon_tup, isNon_lst, isInt_none, isInt_int, isInt_bool, isInt_str, isInt_tup, isInt_lst, isBool_none, isBool_int, isBool_bool, isBool_str, isBool_tup, isBool_lst, isStr_none, isStr_int, isStr_bool, isStr_str, isStr_tup, isStr_lst, isTup_none, isTup_int, isTup_bool, isTup_str, isTup_tup, isTup_lst, isLst_lst, Cnd_true, Cnd_false, Cnd_not, Cnd_dec, asB_bool, forall_const, true_implies, false_implies, implies_true, decide_true, decide_false, Classical.not_not, negD_int, notD_bool, onVal_val, onOwn_own, onDic_dic, onScr_scr, onWv_wv, onInt_int, onTup_tup, onLst_lst, onItems_lst, onItems_tup, frz1_own, frz1_val, frz1_un, ixD_lst, ixD_tup, ixL_int, optD_some, optI_some, absD_int, intD_int, intD_bool, lenD_lst, lenD_tup, lenD_str, tupleD_lst, tupleD_tup, listD_lst, listD_tup, min2D_int, max2D_int, sumD_ints, allD_bls, anyD_bls, slD_lst, slD_tup, slD_str, gNl_nil, gCs_cons, par2_two, seq1_lst, seq1_tup, rng1D_int, rng2D_int, gt_z, gt_s, sp_next_int, set_z, set_s, List.map_cons, List.map_nil, List.length_cons, List.length_nil, List.cons_append, List.nil_append, List.replicate, Nat.reduceAdd, Nat.reduceSub, Nat.zero_add, shaped_int, shaped_bool, shaped_none, shaped_listI, shaped_tupI, shaped_nilL, shaped_nilT, eqv_int, eqv_bool, eqv_str, eqv_none, eqv_list_nil, List.isEmpty_nil, List.isEmpty_cons, Bool.true_eq_false, Bool.false_eq_true, decide_eq_true_eq, and_self, true_and, and_true, not_dec, Bool.not_eq_true', decide_eq_false_iff_not, atI_0, atI_1, atI_2, ite_true, ite_false, if_true, if_false, reduceIte, Bool.not_true, Bool.not_false, not_true_eq_false, not_false_eq_true, List.set_cons_zero, List.set_cons_succ, dPar3, dRev, par3_three, sortedD_ints, revD_tup, two_nat, one_nat, three_nat, dCh3, dOwnC, dPutPar, putPar_two, dZip2, zip2D_lst, zip2D_tup, dPut, isBD_bl, isNotBD_bl, dNewO, dPutO, dSortedO, putKD_int, dPar3O, dParO2, par3O_two, parO2_one, minLD_lst, dKeysW, rdPairs_nil, rdPairs_cons, onPair_ii, revD_lst, spx_least_two, spx_size_of_two])
local macro_rules | `(tactic| walk_at "dd") => `(tactic| (walk_at "d1"; repeat (with_reducible (refine then_intro ?_); walk_at "d1")))
def rd_law_least_b1 : DTS :=
  (dSeq (dAsg (dOp fdivD (dOp subD (dVar 1) (dVar 2)) (dOp mulD (dC (.int 2)) (dVar 1))) (gNm 4)) (dSeq (dPar3 1 2 3 (dCons (dVar 1) (dCons (dOp addD (dVar 2) (dOp mulD (dOp mulD (dC (.int 2)) (dVar 1)) (dVar 4))) (dCons (dOp addD (dOp addD (dOp mulD (dOp mulD (dVar 1) (dVar 4)) (dVar 4)) (dOp mulD (dVar 2) (dVar 4))) (dVar 3)) dNil)))) (dSeq (dCond (dTOr (dT (dOp ltD (dVar 1) (dVar 3))) (dTAnd (dT (dOp eqD (dVar 1) (dVar 3))) (dT (dOp geD (dVar 2) (dC (.int 0)))))) (dRet (dTup (dCons (dVar 1) (dCons (dVar 2) (dCons (dVar 3) dNil))))) dSkip) (dPar3 1 2 3 (dCons (dVar 3) (dCons (dNeg (dVar 2)) (dCons (dVar 1) dNil)))))))
def rd_law_least : DTS :=
  (dSeq (dAsg (dVar 0) (gTp 3 (gCs (gNm 1) (gCs (gNm 2) (gCs (gNm 3) gNl))))) (dWhile (dT (dC (.bool true))) rd_law_least_b1))
def sp_law_least : Lay.Spec := fun ds R => match ds with
  | [.tuple [.int a, .int b, .int c]] => (0 < a ∧ disc (a, b, c) < 0 ∧ ∃ k : Nat, k ≤ 1000 ∧ SmF k (a, b, c)) ∧ ∀ g : Form, Eqv (a, b, c) g → Red g → R (formD g)
  | _ => False
theorem spx_law_least {a b c : Int} {R : D → Prop} : sp_law_least [.tuple [.int a, .int b, .int c]] R = ((0 < a ∧ disc (a, b, c) < 0 ∧ ∃ k : Nat, k ≤ 1000 ∧ SmF k (a, b, c)) ∧ ∀ g : Form, Eqv (a, b, c) g → Red g → R (formD g)) := rfl
theorem shift_zero (f : Form) : shiftF 0 f = f := by
  refine form_ext rfl ?_ ?_ <;> unfold shiftF <;> simp only <;> omega
theorem disc_bits {a b c : Int} {k : Nat} (ha : 0 < a) (hd : disc (a, b, c) < 0) (ab : a.natAbs < 2 ^ k) (bb : b.natAbs < 2 ^ k) (cb : c.natAbs < 2 ^ k) : (disc (a, b, c)).natAbs < 2 ^ (2 * k + 3) := by
  have h1 := bits_mul bb bb
  have e1 : 2 ^ (2 * k + 3) = 2 ^ (2 * k) * 8 := Nat.pow_add 2 (2 * k) 3
  have e2 : 2 ^ (k + k) = 2 ^ (2 * k) := by rw [show k + k = 2 * k by omega]
  rw [e2] at h1
  have h4 : (4 * a * c).natAbs < 2 ^ (2 * k) * 4 := by
    have := bits_mul ab cb
    rw [e2] at this
    rw [Int.mul_assoc, Int.natAbs_mul]
    show 4 * (a * c).natAbs < _
    omega
  have hdd : disc (a, b, c) = b * b - 4 * a * c := rfl
  rw [hdd] at hd ⊢
  rw [e1]
  generalize 2 ^ (2 * k) = T at *
  generalize b * b = B at *
  generalize 4 * a * c = C at *
  omega
theorem ok_law_least : ∀ ds R, sp_law_least ds R → rd_law_least (fnE R) (startE 5 ds) := by
  intro ds R h
  unfold sp_law_least at h
  split at h
  · rename_i a b c
    obtain ⟨⟨ha, hd, k, hk, ab, bb, cb⟩, h⟩ := h
    have db := disc_bits ha hd ab bb cb
    have hLe0 : LeI (a, b, c) k (a, b, c) := ⟨ha, .refl _, fun _ => rfl, ab, bb, bits_mono cb (by omega)⟩
    unfold rd_law_least
    walk_at "dd"
    refine while_by (fun (s : Form × Sl) => [.val (.tuple [.int a, .int b, .int c]), .val (.int s.1.1), .val (.int s.1.2.1), .val (.int s.1.2.2), s.2]) (fun s => LeI (a, b, c) k s.1) (fun s => leM s.1) ((a, b, c), .un) rfl hLe0 ?_
    rintro ⟨f, u⟩ hi bk
    simp only at hi
    walk_at "dd"
    -- behind the shift
    have sh : ∃ g, g = shiftF ((f.1 - f.2.1) / (2 * f.1)) f ∧ LeI (a, b, c) k g ∧ leM g ≤ leM f ∧ -g.1 < g.2.1 ∧ g.2.1 ≤ g.1 := by
      have a0 := hi.a0
      have e := Int.mul_ediv_add_emod (f.1 - f.2.1) (2 * f.1)
      have r0 := Int.emod_nonneg (f.1 - f.2.1) (show 2 * f.1 ≠ 0 by omega)
      have r1 := Int.emod_lt_of_pos (f.1 - f.2.1) (show 0 < 2 * f.1 by omega)
      have hb : (shiftF ((f.1 - f.2.1) / (2 * f.1)) f).2.1 = f.1 - (f.1 - f.2.1) % (2 * f.1) := by
        show f.2.1 + 2 * ((f.1 - f.2.1) / (2 * f.1)) * f.1 = _
        have : 2 * f.1 * ((f.1 - f.2.1) / (2 * f.1)) = 2 * ((f.1 - f.2.1) / (2 * f.1)) * f.1 := by grind
        omega
      have hr : -(shiftF ((f.1 - f.2.1) / (2 * f.1)) f).1 < (shiftF ((f.1 - f.2.1) / (2 * f.1)) f).2.1 ∧ (shiftF ((f.1 - f.2.1) / (2 * f.1)) f).2.1 ≤ (shiftF ((f.1 - f.2.1) / (2 * f.1)) f).1 := by
        rw [hb]
        show -f.1 < _ ∧ _ ≤ f.1
        omega
      by_cases z : -f.1 < f.2.1 ∧ f.2.1 ≤ f.1
      · have t0 : (f.1 - f.2.1) / (2 * f.1) = 0 := Int.ediv_eq_zero_of_lt (by omega) (by omega)
        refine ⟨_, rfl, ?_, ?_, hr⟩ <;> rw [t0, shift_zero]
        · exact hi
        · exact Nat.le_refl _
      · obtain ⟨s1, s2⟩ := hi.shift hd db z
        exact ⟨_, rfl, s1, by omega, hr⟩
    obtain ⟨g, eg, gi, gm, g1, g2⟩ := sh
    have a0 := hi.a0
    have b2 := bits_mul (x := 2) (n := 2) (by decide) hi.ab
    have bd : (f.1 - f.2.1).natAbs < 2 ^ (k + k + 1) := by
      have := bits_add hi.ab (y := -f.2.1) (m := k) (by rw [Int.natAbs_neg]; exact hi.bb)
      rwa [← Int.sub_eq_add_neg] at this
    have bq : ((f.1 - f.2.1) / (2 * f.1)).natAbs < 2 ^ (k + k + 1) := Nat.lt_of_le_of_lt (Int.natAbs_ediv_le_natAbs _ _) bd
    unfold rd_law_least_b1
    walk_at "dd"
    refine ⟨mulOk (x := 2) (n := 2) (by decide) hi.ab (by omega), divOk (by omega) b2 (by omega), ?_⟩
    rw [fdiv_pos _ (by omega)]
    generalize (f.1 - f.2.1) / (2 * f.1) = t at *
    have bt2 := bits_mul hi.ab bq
    have hk1 := hi.ab
    have hk2 := hi.bb
    refine then_intro ?_
    walk_at "dd"
    have e1 : f.1 = g.1 := by rw [eg]; rfl
    have e2 : f.2.1 + 2 * f.1 * t = g.2.1 := by rw [eg]; show _ = f.2.1 + 2 * t * f.1; grind
    have e3 : f.1 * t * t + f.2.1 * t + f.2.2 = g.2.2 := by rw [eg]; show _ = f.2.2 + t * f.2.1 + t * t * f.1; grind
    refine ⟨mulOk (x := 2) (n := 2) (by decide) hi.ab (by omega), mulOk b2 bq (by omega), mulOk hi.ab bq (by omega), mulOk bt2 bq (by omega), mulOk hi.bb bq (by omega), ?_⟩
    rw [e2, e3, e1]
    have stop : Red g → R (formD g) := fun hr => h g gi.eq.eqv hr
    have sw : ¬ Red g → ∃ a' : Form × Sl, [Sl.val (.tuple [.int a, .int b, .int c]), .val (.int g.2.2), .val (.int (-g.2.1)), .val (.int g.1), .val (.int t)] = [.val (.tuple [.int a, .int b, .int c]), .val (.int a'.1.1), .val (.int a'.1.2.1), .val (.int a'.1.2.2), a'.2] ∧ LeI (a, b, c) k a'.1 ∧ leM a'.1 < leM f := fun hn => by
      obtain ⟨s1, s2⟩ := gi.swap hd ⟨g1, g2⟩ hn
      exact ⟨(swapF g, .val (.int t)), rfl, s1, Nat.lt_of_lt_of_le s2 gm⟩
    refine then_intro ?_
    walk_at "dd"
    refine ⟨fun h1 => stop ⟨g1, g2, by omega, fun z => by omega⟩, fun h1 => ⟨fun h2 => ⟨fun h3 => stop ⟨g1, g2, by omega, fun z => by omega⟩, fun h3 => sw fun z => z.2.2.2 ⟨h2, by omega⟩⟩, fun h2 => sw fun z => ?_⟩⟩
    have := z.2.2.1
    omega
  · exact h.elim
local macro_rules | `(tactic| walk_at "d1") => `(tactic| try simp only [dSeq, dSkip, dPass, dRet, dRetN, dDrop, dCond, dAsg, gNm, gTp, dOwn, dOwnL, dPar, dAug, dApp, dExt, dFrz, dFor, dLc, dBreak, dCont, dVar, dC, dOp, dT, dIsi, dNeg, dNot, dTNot, dAnd, dOr, dTAnd, dTOr, dIf, dCh, dNil, dCons, dTup, dLst, dIxO, dB, dCall, dCallW, dItems, dRng1, dRng2, dYes, fnE, startE, startW, startS, dLenO, dLenS, dIxS, dSl, dPt, dNo, wipeE, addD_int, addD_str, addD_tup, addD_lst, subD_int, mulD_int, mulD_tup, mulD_lst, fdivD_int, modD_int, powD_int, shlD_int, shrD_int, andD_int, ltD_int, leD_int, gtD_int, geD_int, eqD_ap, neD_ap, isD_ap, isNotD_ap, isNon_none, isNon_int, isNon_bool, isNon_str, isNon_tup, isNon_lst, isInt_none, isInt_int, isInt_bool, isInt_str, isInt_tup, isInt_lst, isBool_none, isBool_int, isBool_bool, isBool_str, isBool_tup, isBool_lst, isStr_none, isStr_int, isStr_bool, isStr_str, isStr_tup, isStr_lst, isTup_none, isTup_int, isTup_bool, isTup_str, isTup_tup, isTup_lst, isLst_lst, Cnd_true, Cnd_false, Cnd_not, Cnd_dec, asB_bool, forall_const, true_implies, false_implies, implies_true, decide_true, decide_false, Classical.not_not, negD_int, notD_bool, onVal_val, onOwn_own, onDic_dic, onScr_scr, onWv_wv, onInt_int, onTup_tup, onLst_lst, onItems_lst, onItems_tup, frz1_own, frz1_val, frz1_un, ixD_lst, ixD_tup, ixL_int, optD_some, optI_some, absD_int, intD_int, intD_bool, lenD_lst, lenD_tup, lenD_str, tupleD_lst, tupleD_tup, listD_lst, listD_tup, min2D_int, max2D_int, sumD_ints, allD_bls, anyD_bls, slD_lst, slD_tup, slD_str, gNl_nil, gCs_cons, par2_two, seq1_lst, seq1_tup, rng1D_int, rng2D_int, gt_z, gt_s, sp_next_int, set_z, set_s, List.map_cons, List.map_nil, List.length_cons, List.length_nil, List.cons_append, List.nil_append, List.replicate, Nat.reduceAdd, Nat.reduceSub, Nat.zero_add, shaped_int, shaped_bool, shaped_none, shaped_listI, shaped_tupI, shaped_nilL, shaped_nilT, eqv_int, eqv_bool, eqv_str, eqv_none, eqv_list_nil, List.isEmpty_nil, List.isEmpty_cons, Bool.true_eq_false, Bool.false_eq_true, decide_eq_true_eq, and_self, true_and, and_true, not_dec, Bool.not_eq_true', decide_eq_false_iff_not, atI_0, atI_1, atI_2, ite_true, ite_false, if_true, if_false, reduceIte, Bool.not_true, Bool.not_false, not_true_eq_false, not_false_eq_true, List.set_cons_zero, List.set_cons_succ, dPar3, dRev, par3_three, sortedD_ints, revD_tup, two_nat, one_nat, three_nat, dCh3, dOwnC, dPutPar, putPar_two, dZip2, zip2D_lst, zip2D_tup, dPut, isBD_bl, isNotBD_bl, dNewO, dPutO, dSortedO, putKD_int, dPar3O, dParO2, par3O_two, parO2_one, minLD_lst, dKeysW, rdPairs_nil, rdPairs_cons, onPair_ii, revD_lst])
local macro_rules | `(tactic| walk_at "dd") => `(tactic| (walk_at "d1"; repeat (with_reducible (refine then_intro ?_); walk_at "d1")))
/-- the odd part (0 of 0) and how many twos -/
def strip (a : Nat) : Nat × Nat := if h : a ≠ 0 ∧ a % 2 = 0 then ((strip (a / 2)).1, (strip (a / 2)).2 + 1) else (a, 0)
termination_by a
decreasing_by all_goals omega
theorem strip_even {a : Nat} (h0 : a ≠ 0) (h : a % 2 = 0) : strip a = ((strip (a / 2)).1, (strip (a / 2)).2 + 1) := by rw [strip]; exact dif_pos ⟨h0, h⟩
theorem strip_odd {a : Nat} (h : ¬ (a ≠ 0 ∧ a % 2 = 0)) : strip a = (a, 0) := by rw [strip]; exact dif_neg h
theorem strip_le : ∀ a : Nat, (strip a).1 ≤ a := by
  intro a
  induction a using Nat.strongRecOn with
  | _ a ih =>
    by_cases h : a ≠ 0 ∧ a % 2 = 0
    · rw [strip_even h.1 h.2]
      have := ih (a / 2) (by omega)
      show (strip (a / 2)).1 ≤ a
      omega
    · rw [strip_odd h]
      exact Nat.le_refl _
theorem strip_is : ∀ a : Nat, (strip a).1 = 0 ∨ (strip a).1 % 2 = 1 := by
  intro a
  induction a using Nat.strongRecOn with
  | _ a ih =>
    by_cases h : a ≠ 0 ∧ a % 2 = 0
    · rw [strip_even h.1 h.2]
      exact ih (a / 2) (by omega)
    · rw [strip_odd h]
      show a = 0 ∨ a % 2 = 1
      omega
theorem strip_zero {a : Nat} : (strip a).1 = 0 ↔ a = 0 := by
  induction a using Nat.strongRecOn with
  | _ a ih =>
    by_cases h : a ≠ 0 ∧ a % 2 = 0
    · rw [strip_even h.1 h.2]
      have := ih (a / 2) (by omega)
      show (strip (a / 2)).1 = 0 ↔ a = 0
      omega
    · rw [strip_odd h]
theorem strip_eq : ∀ a : Nat, a = (strip a).1 * 2 ^ (strip a).2 := by
  intro a
  induction a using Nat.strongRecOn with
  | _ a ih =>
    by_cases h : a ≠ 0 ∧ a % 2 = 0
    · rw [strip_even h.1 h.2]
      have := ih (a / 2) (by omega)
      show a = (strip (a / 2)).1 * 2 ^ ((strip (a / 2)).2 + 1)
      rw [Nat.pow_succ, ← Nat.mul_assoc, ← this]
      omega
    · rw [strip_odd h]
      show a = a * 1
      omega
theorem strip_twos_le (a : Nat) : (strip a).2 ≤ a := by
  induction a using Nat.strongRecOn with
  | _ a ih =>
    by_cases h : a ≠ 0 ∧ a % 2 = 0
    · rw [strip_even h.1 h.2]
      have := ih (a / 2) (by omega)
      show (strip (a / 2)).2 + 1 ≤ a
      omega
    · rw [strip_odd h]
      exact Nat.zero_le _
/-- what t twos do, what changing places does -/
def twoSign (t n : Nat) : Int := if t % 2 = 1 ∧ (n % 8 = 3 ∨ n % 8 = 5) then -1 else 1
def swapSign (a n : Nat) : Int := if a % 4 = 3 ∧ n % 4 = 3 then -1 else 1
theorem twoSign_succ (t n : Nat) : twoSign (t + 1) n = (if n % 8 = 3 ∨ n % 8 = 5 then -1 else 1) * twoSign t n := by
  unfold twoSign
  by_cases h : n % 8 = 3 ∨ n % 8 = 5
  · rcases (show t % 2 = 0 ∨ t % 2 = 1 by omega) with e | e
    · have : (t + 1) % 2 = 1 := by omega
      simp [h, e, this]
    · have : (t + 1) % 2 = 0 := by omega
      simp [h, e, this]
  · simp [h]
theorem twoSign_zero (n : Nat) : twoSign 0 n = 1 := by simp [twoSign]
/-- the mark of a, that is below n -/
def jac (a n : Nat) : Int := if h : a = 0 then (if n = 1 then 1 else 0) else twoSign (strip a).2 n * swapSign (strip a).1 n * jac (n % (strip a).1) (strip a).1
termination_by a
decreasing_by
  have h1 := strip_le a
  have h2 : (strip a).1 ≠ 0 := fun z => h (strip_zero.mp z)
  exact Nat.lt_of_lt_of_le (Nat.mod_lt _ (by omega)) h1
theorem jac_zero (n : Nat) : jac 0 n = if n = 1 then 1 else 0 := by rw [jac]; exact dif_pos rfl
theorem jac_step {a n : Nat} (h : a ≠ 0) : jac a n = twoSign (strip a).2 n * swapSign (strip a).1 n * jac (n % (strip a).1) (strip a).1 := by rw [jac]; exact dif_neg h
/-- the pairs that are come to -/
def markSteps (a n : Nat) : List (Nat × Nat) := (a, n) :: (if h : 1 < a then markSteps (strip (n % a)).1 a else [])
termination_by a
decreasing_by exact Nat.lt_of_le_of_lt (strip_le _) (Nat.mod_lt _ (by omega))
theorem markSteps_end {a n : Nat} (h : ¬ 1 < a) : markSteps a n = [(a, n)] := by rw [markSteps, dif_neg h]
theorem markSteps_more {a n : Nat} (h : 1 < a) : markSteps a n = (a, n) :: markSteps (strip (n % a)).1 a := by rw [markSteps, dif_pos h]
theorem markSteps_len (a n : Nat) : (markSteps a n).length ≤ a + 1 := by
  induction a using Nat.strongRecOn generalizing n with
  | _ a ih =>
    by_cases h : 1 < a
    · rw [markSteps_more h]
      have h1 : (strip (n % a)).1 < a := Nat.lt_of_le_of_lt (strip_le _) (Nat.mod_lt _ (by omega))
      have := ih _ h1 a
      simp only [List.length_cons]
      omega
    · rw [markSteps_end h]
      simp
def pairD (p : Nat × Nat) : PyData := .tuple [.int p.1, .int p.2]
local macro_rules | `(tactic| walk_at "d1") => `(tactic| try simp only [dSeq, dSkip, dPass, dRet, dRetN, dDrop, dCond, dAsg, gNm, gTp, dOwn, dOwnL, dPar, dAug, dApp, dExt, dFrz, dFor, dLc, dBreak, dCont, dVar, dC, dOp, dT, dIsi, dNeg, dNot, dTNot, dAnd, dOr, dTAnd, dTOr, dIf, dCh, dNil, dCons, dTup, dLst, dIxO, dB, dCall, dCallW, dItems, dRng1, dRng2, dYes, fnE, startE, startW, startS, dLenO, dLenS, dIxS, dSl, dPt, dNo, wipeE, addD_int, addD_str, addD_tup, addD_lst, subD_int, mulD_int, mulD_tup, mulD_lst, fdivD_int, modD_int, powD_int, shlD_int, shrD_int, andD_int, ltD_int, leD_int, gtD_int, geD_int, eqD_ap, neD_ap, isD_ap, isNotD_ap, isNon_none, isNon_int, isNon_bool, isNon_str, isNon_tup, isNon_lst, isInt_none, isInt_int, isInt_bool, isInt_str, isInt_tup, isInt_lst, isBool_none, isBool_int, isBool_bool, isBool_str, isBool_tup, isBool_lst, isStr_none, isStr_int, isStr_bool, isStr_str, isStr_tup, isStr_lst, isTup_none, isTup_int, isTup_bool, isTup_str, isTup_tup, isTup_lst, isLst_lst, Cnd_true, Cnd_false, Cnd_not, Cnd_dec, asB_bool, forall_const, true_implies, false_implies, implies_true, decide_true, decide_false, Classical.not_not, negD_int, notD_bool, onVal_val, onOwn_own, onDic_dic, onScr_scr, onWv_wv, onInt_int, onTup_tup, onLst_lst, onItems_lst, onItems_tup, frz1_own, frz1_val, frz1_un, ixD_lst, ixD_tup, ixL_int, optD_some, optI_some, absD_int, intD_int, intD_bool, lenD_lst, lenD_tup, lenD_str, tupleD_lst, tupleD_tup, listD_lst, listD_tup, min2D_int, max2D_int, sumD_ints, allD_bls, anyD_bls, slD_lst, slD_tup, slD_str, gNl_nil, gCs_cons, par2_two, seq1_lst, seq1_tup, rng1D_int, rng2D_int, gt_z, gt_s, sp_next_int, set_z, set_s, List.map_cons, List.map_nil, List.length_cons, List.length_nil, List.cons_append, List.nil_append, List.replicate, Nat.reduceAdd, Nat.reduceSub, Nat.zero_add, shaped_int, shaped_bool, shaped_none, shaped_listI, shaped_tupI, shaped_nilL, shaped_nilT, eqv_int, eqv_bool, eqv_str, eqv_none, eqv_list_nil, List.isEmpty_nil, List.isEmpty_cons, Bool.true_eq_false, Bool.false_eq_true, decide_eq_true_eq, and_self, true_and, and_true, not_dec, Bool.not_eq_true', decide_eq_false_iff_not, atI_0, atI_1, atI_2, ite_true, ite_false, if_true, if_false, reduceIte, Bool.not_true, Bool.not_false, not_true_eq_false, not_false_eq_true, List.set_cons_zero, List.set_cons_succ, dPar3, dRev, par3_three, sortedD_ints, revD_tup, two_nat, one_nat, three_nat, dCh3, dOwnC, dPutPar, putPar_two, dZip2, zip2D_lst, zip2D_tup, dPut, isBD_bl, isNotBD_bl, dNewO, dPutO, dSortedO, putKD_int, dPar3O, dParO2, par3O_two, parO2_one, minLD_lst, dKeysW, rdPairs_nil, rdPairs_cons, onPair_ii, revD_lst])
local macro_rules | `(tactic| walk_at "dd") => `(tactic| (walk_at "d1"; repeat (with_reducible (refine then_intro ?_); walk_at "d1")))
/-- the least divisor from d on (n, if none is below it) -/
def minFrom (n d : Nat) : Nat := if h : d < n ∧ n % d ≠ 0 then minFrom n (d + 1) else (if d < n then d else n)
termination_by n - d
decreasing_by omega
def minFac (n : Nat) : Nat := minFrom n 2
theorem minFrom_next {n d : Nat} (h1 : d < n) (h2 : n % d ≠ 0) : minFrom n d = minFrom n (d + 1) := by
  rw [minFrom]
  exact dif_pos ⟨h1, h2⟩
theorem minFrom_here {n d : Nat} (h1 : d < n) (h2 : n % d = 0) : minFrom n d = d := by
  rw [minFrom, dif_neg (fun z => z.2 h2), if_pos h1]
theorem minFrom_end {n d : Nat} (h1 : ¬ d < n) : minFrom n d = n := by
  rw [minFrom, dif_neg (fun z => h1 z.1), if_neg h1]
/-- what it is: p is it if p divides and nothing from d to below p does -/
theorem minFrom_is {n p : Nat} (hp : p ∣ n) (hn : 0 < n) : ∀ {k d : Nat}, p - d = k → d ≤ p → (∀ e, d ≤ e → e < p → ¬ e ∣ n) → minFrom n d = p := by
  intro k
  induction k with
  | zero =>
    intro d hk hd h
    have e : d = p := by omega
    subst e
    by_cases hlt : d < n
    · exact minFrom_here hlt (Nat.mod_eq_zero_of_dvd hp)
    · rw [minFrom_end hlt]
      have := Nat.le_of_dvd hn hp
      omega
  | succ k ih =>
    intro d hk hd h
    have hpn := Nat.le_of_dvd hn hp
    rw [minFrom_next (by omega) (fun z => h d (Nat.le_refl _) (by omega) (Nat.dvd_of_mod_eq_zero z))]
    exact ih (by omega) (by omega) fun e he => h e (by omega)
theorem minFac_is {n p : Nat} (h2 : 2 ≤ p) (hn : 0 < n) (hp : p ∣ n) (h : ∀ e, 2 ≤ e → e < p → ¬ e ∣ n) : minFac n = p := minFrom_is hp hn rfl h2 h
theorem minFrom_spec {n : Nat} : ∀ {k d : Nat}, n - d = k → d ≤ n → minFrom n d ∣ n ∧ d ≤ minFrom n d ∧ ∀ e, d ≤ e → e < minFrom n d → ¬ e ∣ n := by
  intro k
  induction k with
  | zero =>
    intro d hk hd
    have e : d = n := by omega
    rw [minFrom_end (by omega)]
    exact ⟨Nat.dvd_refl _, hd, fun e h1 h2 => absurd h2 (by omega)⟩
  | succ k ih =>
    intro d hk hd
    by_cases h : n % d = 0
    · rw [minFrom_here (by omega) h]
      exact ⟨Nat.dvd_of_mod_eq_zero h, Nat.le_refl _, fun e h1 h2 => absurd h2 (by omega)⟩
    · rw [minFrom_next (by omega) h]
      obtain ⟨h1, h2, h3⟩ := ih (d := d + 1) (by omega) (by omega)
      refine ⟨h1, by omega, fun e he1 he2 => ?_⟩
      by_cases e3 : e = d
      · subst e3
        exact fun z => h (Nat.mod_eq_zero_of_dvd z)
      · exact h3 e (by omega) he2
theorem minFac_spec {n : Nat} (h : 2 ≤ n) : minFac n ∣ n ∧ 2 ≤ minFac n ∧ ∀ e, 2 ≤ e → e < minFac n → ¬ e ∣ n := minFrom_spec rfl h
/-- p taken out of n: what is left and how often -/
def takeOut (p n : Nat) : Nat × Nat := if h : 2 ≤ p ∧ 0 < n ∧ n % p = 0 then ((takeOut p (n / p)).1, (takeOut p (n / p)).2 + 1) else (n, 0)
termination_by n
decreasing_by all_goals exact Nat.div_lt_self h.2.1 h.1
theorem takeOut_more {p n : Nat} (hp : 2 ≤ p) (hn : 0 < n) (h : n % p = 0) : takeOut p n = ((takeOut p (n / p)).1, (takeOut p (n / p)).2 + 1) := by rw [takeOut]; exact dif_pos ⟨hp, hn, h⟩
theorem takeOut_none {p n : Nat} (h : n % p ≠ 0) : takeOut p n = (n, 0) := by rw [takeOut]; exact dif_neg fun z => h z.2.2
theorem takeOut_spec {p : Nat} (hp : 2 ≤ p) : ∀ n : Nat, 0 < n → n = (takeOut p n).1 * p ^ (takeOut p n).2 ∧ 0 < (takeOut p n).1 ∧ (takeOut p n).1 % p ≠ 0 := by
  intro n
  induction n using Nat.strongRecOn with
  | _ n ih =>
    intro hn
    by_cases h : n % p = 0
    · have hq : 0 < n / p := Nat.div_pos (Nat.le_of_dvd hn (Nat.dvd_of_mod_eq_zero h)) (by omega)
      obtain ⟨h1, h2, h3⟩ := ih (n / p) (Nat.div_lt_self hn hp) hq
      rw [takeOut_more hp hn h]
      refine ⟨?_, h2, h3⟩
      show n = (takeOut p (n / p)).1 * p ^ ((takeOut p (n / p)).2 + 1)
      rw [Nat.pow_succ, ← Nat.mul_assoc, ← h1]
      exact (Nat.div_mul_cancel (Nat.dvd_of_mod_eq_zero h)).symm
    · rw [takeOut_none h]
      exact ⟨by simp, hn, h⟩
theorem takeOut_lt {p n : Nat} (hp : 2 ≤ p) (hn : 0 < n) (h : p ∣ n) : (takeOut p n).1 < n ∧ 1 ≤ (takeOut p n).2 ∧ (takeOut p n).1 * 2 ≤ n := by
  have hm := Nat.mod_eq_zero_of_dvd h
  have hq : 0 < n / p := Nat.div_pos (Nat.le_of_dvd hn h) (by omega)
  rw [takeOut_more hp hn hm]
  obtain ⟨h1, h2, h3⟩ := takeOut_spec hp (n / p) hq
  have h4 : (takeOut p (n / p)).1 ≤ n / p := by
    conv => rhs; rw [h1]
    exact Nat.le_mul_of_pos_right _ (Nat.pow_pos (by omega))
  have h5 : n / p * 2 ≤ n := by
    have := Nat.div_mul_le_self n p
    have := Nat.mul_le_mul_left (n / p) hp
    omega
  refine ⟨?_, Nat.le_add_left _ _, ?_⟩
  · show (takeOut p (n / p)).1 < n
    omega
  · show (takeOut p (n / p)).1 * 2 ≤ n
    omega
/-- the parts: the primes and how often they divide -/
def fac (n : Nat) : List (Nat × Nat) := if h : 2 ≤ n then (minFac n, (takeOut (minFac n) n).2) :: fac (takeOut (minFac n) n).1 else []
termination_by n
decreasing_by exact (takeOut_lt (minFac_spec h).2.1 (by omega) (minFac_spec h).1).1
theorem fac_small {n : Nat} (h : ¬ 2 ≤ n) : fac n = [] := by rw [fac]; exact dif_neg h
theorem fac_more {n : Nat} (h : 2 ≤ n) : fac n = (minFac n, (takeOut (minFac n) n).2) :: fac (takeOut (minFac n) n).1 := by rw [fac]; exact dif_pos h
theorem fac_len : ∀ n : Nat, 0 < n → 2 ^ (fac n).length ≤ n := by
  intro n
  induction n using Nat.strongRecOn with
  | _ n ih =>
    intro hn
    by_cases h : 2 ≤ n
    · obtain ⟨h1, h2, h3⟩ := minFac_spec h
      obtain ⟨t1, t2, t3⟩ := takeOut_lt h2 hn h1
      rw [fac_more h, List.length_cons, Nat.pow_succ]
      have := ih _ t1 (takeOut_spec h2 n hn).2.1
      omega
    · rw [fac_small h]
      exact hn
theorem dvd_takeOut {p e n : Nat} (hp : 2 ≤ p) (hn : 0 < n) (h : e ∣ (takeOut p n).1) : e ∣ n := by
  obtain ⟨h1, _⟩ := takeOut_spec hp n hn
  rw [h1]
  exact Nat.dvd_trans h (Nat.dvd_mul_right _ _)
local macro_rules | `(tactic| walk_at "d1") => `(tactic| try simp only [dSeq, dSkip, dPass, dRet, dRetN, dDrop, dCond, dAsg, gNm, gTp, dOwn, dOwnL, dPar, dAug, dApp, dExt, dFrz, dFor, dLc, dBreak, dCont, dVar, dC, dOp, dT, dIsi, dNeg, dNot, dTNot, dAnd, dOr, dTAnd, dTOr, dIf, dCh, dNil, dCons, dTup, dLst, dIxO, dB, dCall, dCallW, dItems, dRng1, dRng2, dYes, fnE, startE, startW, startS, dLenO, dLenS, dIxS, dSl, dPt, dNo, wipeE, addD_int, addD_str, addD_tup, addD_lst, subD_int, mulD_int, mulD_tup, mulD_lst, fdivD_int, modD_int, powD_int, shlD_int, shrD_int, andD_int, ltD_int, leD_int, gtD_int, geD_int, eqD_ap, neD_ap, isD_ap, isNotD_ap, isNon_none, isNon_int, isNon_bool, isNon_str, isNon_tup, isNon_lst, isInt_none, isInt_int, isInt_bool, isInt_str, isInt_tup, isInt_lst, isBool_none, isBool_int, isBool_bool, isBool_str, isBool_tup, isBool_lst, isStr_none, isStr_int, isStr_bool, isStr_str, isStr_tup, isStr_lst, isTup_none, isTup_int, isTup_bool, isTup_str, isTup_tup, isTup_lst, isLst_lst, Cnd_true, Cnd_false, Cnd_not, Cnd_dec, asB_bool, forall_const, true_implies, false_implies, implies_true, decide_true, decide_false, Classical.not_not, negD_int, notD_bool, onVal_val, onOwn_own, onDic_dic, onScr_scr, onWv_wv, onInt_int, onTup_tup, onLst_lst, onItems_lst, onItems_tup, frz1_own, frz1_val, frz1_un, ixD_lst, ixD_tup, ixL_int, optD_some, optI_some, absD_int, intD_int, intD_bool, lenD_lst, lenD_tup, lenD_str, tupleD_lst, tupleD_tup, listD_lst, listD_tup, min2D_int, max2D_int, sumD_ints, allD_bls, anyD_bls, slD_lst, slD_tup, slD_str, gNl_nil, gCs_cons, par2_two, seq1_lst, seq1_tup, rng1D_int, rng2D_int, gt_z, gt_s, sp_next_int, set_z, set_s, List.map_cons, List.map_nil, List.length_cons, List.length_nil, List.cons_append, List.nil_append, List.replicate, Nat.reduceAdd, Nat.reduceSub, Nat.zero_add, shaped_int, shaped_bool, shaped_none, shaped_listI, shaped_tupI, shaped_nilL, shaped_nilT, eqv_int, eqv_bool, eqv_str, eqv_none, eqv_list_nil, List.isEmpty_nil, List.isEmpty_cons, Bool.true_eq_false, Bool.false_eq_true, decide_eq_true_eq, and_self, true_and, and_true, not_dec, Bool.not_eq_true', decide_eq_false_iff_not, atI_0, atI_1, atI_2, ite_true, ite_false, if_true, if_false, reduceIte, Bool.not_true, Bool.not_false, not_true_eq_false, not_false_eq_true, List.set_cons_zero, List.set_cons_succ, dPar3, dRev, par3_three, sortedD_ints, revD_tup, two_nat, one_nat, three_nat, dCh3, dOwnC, dPutPar, putPar_two, dZip2, zip2D_lst, zip2D_tup, dPut, isBD_bl, isNotBD_bl, dNewO, dPutO, dSortedO, putKD_int, dPar3O, dParO2, par3O_two, parO2_one, minLD_lst, dKeysW, rdPairs_nil, rdPairs_cons, onPair_ii, revD_lst])
local macro_rules | `(tactic| walk_at "dd") => `(tactic| (walk_at "d1"; repeat (with_reducible (refine then_intro ?_); walk_at "d1")))
/-- p taken out of a whole number: what is left and how often -/
def tkI (p : Nat) (n : Int) : Int × Nat := (n.sign * ((takeOut p n.natAbs).1 : Int), (takeOut p n.natAbs).2)
theorem tkI_none {p : Nat} {n : Int} (h : ¬ (p : Int) ∣ n) : tkI p n = (n, 0) := by
  have h' : n.natAbs % p ≠ 0 := fun z => h (Int.ofNat_dvd_left.mpr (Nat.dvd_of_mod_eq_zero z))
  unfold tkI
  rw [takeOut_none h']
  show (n.sign * (n.natAbs : Int), 0) = (n, 0)
  rw [Int.sign_mul_natAbs]
theorem tkI_mul {p : Nat} {q : Int} (hp : 2 ≤ p) (hq : q ≠ 0) : tkI p ((p : Int) * q) = ((tkI p q).1, (tkI p q).2 + 1) := by
  have e1 : ((p : Int) * q).natAbs = p * q.natAbs := by rw [Int.natAbs_mul]; rfl
  have e2 : ((p : Int) * q).sign = q.sign := by rw [Int.sign_mul, Int.sign_eq_one_of_pos (by omega), Int.one_mul]
  have h0 : 0 < q.natAbs := by omega
  have hm := takeOut_more (p := p) (n := p * q.natAbs) hp (Nat.mul_pos (by omega) h0) (Nat.mul_mod_right _ _)
  rw [Nat.mul_div_cancel_left _ (by omega : 0 < p)] at hm
  unfold tkI
  rw [e1, e2, hm]
theorem tkI_div {p : Nat} {n : Int} (hp : 2 ≤ p) (hn : n ≠ 0) (h : (p : Int) ∣ n) : tkI p n = ((tkI p (n / p)).1, (tkI p (n / p)).2 + 1) ∧ n / p ≠ 0 ∧ (n / (p : Int)).natAbs < n.natAbs := by
  obtain ⟨q, rfl⟩ := h
  have hq : q ≠ 0 := fun z => hn (by rw [z, Int.mul_zero])
  have e : (p : Int) * q / (p : Int) = q := Int.mul_ediv_cancel_left q (by omega)
  rw [e]
  refine ⟨tkI_mul hp hq, hq, ?_⟩
  rw [Int.natAbs_mul]
  have : q.natAbs * 2 ≤ (p : Int).natAbs * q.natAbs := by rw [Nat.mul_comm]; exact Nat.mul_le_mul_right _ (by omega)
  omega
theorem tkI_spec {p : Nat} (hp : 2 ≤ p) {n : Int} (hn : n ≠ 0) : n = (tkI p n).1 * (p : Int) ^ (tkI p n).2 ∧ (tkI p n).1 ≠ 0 ∧ ¬ (p : Int) ∣ (tkI p n).1 := by
  obtain ⟨h1, h2, h3⟩ := takeOut_spec hp n.natAbs (by omega)
  have hs : n.sign = 1 ∨ n.sign = -1 := by
    rcases Int.lt_or_lt_of_ne hn with h | h
    · exact .inr (Int.sign_eq_neg_one_of_neg h)
    · exact .inl (Int.sign_eq_one_of_pos h)
  refine ⟨?_, ?_, ?_⟩
  · show n = n.sign * ((takeOut p n.natAbs).1 : Int) * (p : Int) ^ (takeOut p n.natAbs).2
    rw [Int.mul_assoc, ← Int.natCast_pow, ← Int.natCast_mul, ← h1, Int.sign_mul_natAbs]
  · show n.sign * _ ≠ 0
    rcases hs with e | e <;> rw [e] <;> omega
  · show ¬ (p : Int) ∣ n.sign * _
    intro z
    have z' : (p : Int) ∣ ((takeOut p n.natAbs).1 : Int) := by
      rcases hs with e | e
      · rw [e, Int.one_mul] at z; exact z
      · rw [e] at z
        have := Int.dvd_neg.mpr z
        rwa [show -(-1 * ((takeOut p n.natAbs).1 : Int)) = ((takeOut p n.natAbs).1 : Int) by omega] at this
    exact h3 (Nat.mod_eq_zero_of_dvd (Int.natCast_dvd_natCast.mp z'))
theorem tkI_le {p : Nat} (hp : 2 ≤ p) {n : Int} (hn : n ≠ 0) : (tkI p n).1.natAbs ≤ n.natAbs ∧ 2 ^ (tkI p n).2 ≤ n.natAbs := by
  obtain ⟨h1, h2, h3⟩ := tkI_spec hp hn
  have e : n.natAbs = (tkI p n).1.natAbs * p ^ (tkI p n).2 := by
    conv => lhs; rw [h1]
    rw [Int.natAbs_mul, Int.natAbs_pow]
    rfl
  have hp0 : 0 < p ^ (tkI p n).2 := Nat.pow_pos (by omega)
  have ha : 0 < (tkI p n).1.natAbs := by omega
  refine ⟨?_, ?_⟩
  · have := Nat.le_mul_of_pos_right (tkI p n).1.natAbs hp0
    omega
  · have h4 : 2 ^ (tkI p n).2 ≤ p ^ (tkI p n).2 := Nat.pow_le_pow_left hp _
    have := Nat.le_mul_of_pos_left (p ^ (tkI p n).2) ha
    omega
theorem bits_of_pow {v k : Nat} {n : Int} (h : 2 ^ v ≤ n.natAbs) (hb : n.natAbs < 2 ^ k) : v < k :=
  (Nat.pow_lt_pow_iff_right (by decide : 1 < 2)).mp (Nat.lt_of_le_of_lt h hb)
/-- what is to be asked of a prime -/
def PrimeI (p : Nat) : Prop := 2 ≤ p ∧ ∀ r, r < p → r ≠ 0 → Nat.gcd r p = 1
theorem PrimeI.gcd {p : Nat} (h : PrimeI p) {r : Int} (hr : ¬ (p : Int) ∣ r) : Int.gcd r (p : Int) = 1 := by
  have hp : (0 : Int) < p := by have := h.1; omega
  have h0 := Int.emod_nonneg r (show (p : Int) ≠ 0 by omega)
  have h1 := Int.emod_lt_of_pos r hp
  have h2 : r % (p : Int) ≠ 0 := fun z => hr (Int.dvd_of_emod_eq_zero z)
  have := h.2 (r % (p : Int)).toNat (by omega) (by omega)
  have e : Int.gcd (r % (p : Int)) (p : Int) = Int.gcd r p := by
    have e1 : r % (p : Int) = r - r / (p : Int) * (p : Int) := by have := Int.emod_def r (p : Int); rw [this, Int.mul_comm]
    rw [e1, Int.gcd_comm, Int.gcd_sub_mul_right_right, Int.gcd_comm]
  rw [← e]
  show Nat.gcd (r % (p : Int)).natAbs p = 1
  rw [show (r % (p : Int)).natAbs = (r % (p : Int)).toNat by omega]
  exact this
theorem PrimeI.gcd_pow {p : Nat} (h : PrimeI p) {r : Int} (hr : ¬ (p : Int) ∣ r) (k : Nat) : Int.gcd r ((p : Int) ^ k) = 1 := by
  have h1 : Nat.gcd r.natAbs p = 1 := h.gcd hr
  show Nat.gcd r.natAbs ((p : Int) ^ k).natAbs = 1
  rw [Int.natAbs_pow]
  exact Nat.Coprime.pow_right k h1
/-- the answer of a division modulo m is one -/
theorem quot_uniq {r s t u m : Int} (hg : Int.gcd r m = 1) (t0 : 0 ≤ t) (t1 : t < m) (u0 : 0 ≤ u) (u1 : u < m) (ht : m ∣ r * t - s) (hu : m ∣ r * u - s) : t = u := by
  have h1 : m ∣ r * (t - u) := by
    have := Int.dvd_sub ht hu
    rwa [show r * t - s - (r * u - s) = r * (t - u) by grind] at this
  have h2 : m ∣ t - u := by
    have hc : Int.gcd m r = 1 := by rw [Int.gcd_comm]; exact hg
    have hc' : Nat.Coprime m.natAbs r.natAbs := hc
    rw [← Int.natAbs_dvd_natAbs, Int.natAbs_mul] at h1
    exact Int.natAbs_dvd_natAbs.mp (hc'.dvd_of_dvd_mul_left h1)
  obtain ⟨q, hq⟩ := h2
  have hm : 0 < m := by omega
  have hq0 : q = 0 := by
    rcases Int.lt_trichotomy q 0 with z | z | z
    · have := Int.mul_le_mul_of_nonneg_left (show q ≤ -1 by omega) (show 0 ≤ m by omega)
      omega
    · exact z
    · have := Int.mul_le_mul_of_nonneg_left (show 1 ≤ q by omega) (show 0 ≤ m by omega)
      omega
  rw [hq0, Int.mul_zero] at hq
  omega
local macro_rules | `(tactic| walk_at "d1") => `(tactic| try simp only [dSeq, dSkip, dPass, dRet, dRetN, dDrop, dCond, dAsg, gNm, gTp, dOwn, dOwnL, dPar, dAug, dApp, dExt, dFrz, dFor, dLc, dBreak, dCont, dVar, dC, dOp, dT, dIsi, dNeg, dNot, dTNot, dAnd, dOr, dTAnd, dTOr, dIf, dCh, dNil, dCons, dTup, dLst, dIxO, dB, dCall, dCallW, dItems, dRng1, dRng2, dYes, fnE, startE, startW, startS, dLenO, dLenS, dIxS, dSl, dPt, dNo, wipeE, addD_int, addD_str, addD_tup, addD_lst, subD_int, mulD_int, mulD_tup, mulD_lst, fdivD_int, modD_int, powD_int, shlD_int, shrD_int, andD_int, ltD_int, leD_int, gtD_int, geD_int, eqD_ap, neD_ap, isD_ap, isNotD_ap, isNon_none, isNon_int, isNon_bool, isNon_str, isNon_tup, isNon_lst, isInt_none, isInt_int, isInt_bool, isInt_str, isInt_tup, isInt_lst, isBool_none, isBool_int, isBool_bool, isBool_str, isBool_tup, isBool_lst, isStr_none, isStr_int, isStr_bool, isStr_str, isStr_tup, isStr_lst, isTup_none, isTup_int, isTup_bool, isTup_str, isTup_tup, isTup_lst, isLst_lst, Cnd_true, Cnd_false, Cnd_not, Cnd_dec, asB_bool, forall_const, true_implies, false_implies, implies_true, decide_true, decide_false, Classical.not_not, negD_int, notD_bool, onVal_val, onOwn_own, onDic_dic, onScr_scr, onWv_wv, onInt_int, onTup_tup, onLst_lst, onItems_lst, onItems_tup, frz1_own, frz1_val, frz1_un, ixD_lst, ixD_tup, ixL_int, optD_some, optI_some, absD_int, intD_int, intD_bool, lenD_lst, lenD_tup, lenD_str, tupleD_lst, tupleD_tup, listD_lst, listD_tup, min2D_int, max2D_int, sumD_ints, allD_bls, anyD_bls, slD_lst, slD_tup, slD_str, gNl_nil, gCs_cons, par2_two, seq1_lst, seq1_tup, rng1D_int, rng2D_int, gt_z, gt_s, sp_next_int, set_z, set_s, List.map_cons, List.map_nil, List.length_cons, List.length_nil, List.cons_append, List.nil_append, List.replicate, Nat.reduceAdd, Nat.reduceSub, Nat.zero_add, shaped_int, shaped_bool, shaped_none, shaped_listI, shaped_tupI, shaped_nilL, shaped_nilT, eqv_int, eqv_bool, eqv_str, eqv_none, eqv_list_nil, List.isEmpty_nil, List.isEmpty_cons, Bool.true_eq_false, Bool.false_eq_true, decide_eq_true_eq, and_self, true_and, and_true, not_dec, Bool.not_eq_true', decide_eq_false_iff_not, atI_0, atI_1, atI_2, ite_true, ite_false, if_true, if_false, reduceIte, Bool.not_true, Bool.not_false, not_true_eq_false, not_false_eq_true, List.set_cons_zero, List.set_cons_succ, dPar3, dRev, par3_three, sortedD_ints, revD_tup, two_nat, one_nat, three_nat, dCh3, dOwnC, dPutPar, putPar_two, dZip2, zip2D_lst, zip2D_tup, dPut, isBD_bl, isNotBD_bl, dNewO, dPutO, dSortedO, putKD_int, dPar3O, dParO2, par3O_two, parO2_one, minLD_lst, dKeysW, rdPairs_nil, rdPairs_cons, onPair_ii, revD_lst])
local macro_rules | `(tactic| walk_at "dd") => `(tactic| (walk_at "d1"; repeat (with_reducible (refine then_intro ?_); walk_at "d1")))
/-- the value of c0 + c1 x + .. -/
def pval : List Int → Int → Int
  | [], _ => 0
  | c :: cs, x => pval cs x * x + c
def pder : List Int → Int → Int
  | [], _ => 0
  | _ :: cs, x => pval cs x + x * pder cs x
def slopeL : Int → List Int → List Int
  | _, [] => []
  | k, c :: cs => k * c :: slopeL (k + 1) cs
def slope (cs : List Int) : List Int := slopeL 1 cs.tail
theorem slopeL_val : ∀ (cs : List Int) (k x : Int), pval (slopeL k cs) x = k * pval cs x + x * pder cs x
  | [], k, x => by simp [slopeL, pval, pder]
  | c :: cs, k, x => by
    have q := slopeL_val cs (k + 1) x
    simp only [slopeL, pval, pder, q]
    grind
theorem slope_val (cs : List Int) (x : Int) : pval (slope cs) x = pder cs x := by
  cases cs with
  | nil => rfl
  | cons c cs =>
    show pval (slopeL 1 cs) x = _
    rw [slopeL_val, Int.one_mul]
    rfl
theorem slopeL_eq : ∀ (cs : List Int) (k : Int), slopeL k cs = (List.range cs.length).map fun (i : Nat) => (k + (i : Int)) * cs.getD i 0
  | [], k => rfl
  | c :: cs, k => by
    rw [slopeL, slopeL_eq cs (k + 1), List.length_cons, List.range_succ_eq_map, List.map_cons, List.map_map]
    congr 1
    · simp
    · refine List.map_congr_left fun i _ => ?_
      simp only [Function.comp_apply, List.getD_cons_succ]
      rw [show k + 1 + (i : Int) = k + ((i.succ : Nat) : Int) by omega]
theorem slope_len (cs : List Int) : (slope cs).length = cs.length - 1 := by
  unfold slope
  rw [slopeL_eq, List.length_map, List.length_range, List.length_tail]
theorem slope_eq (cs : List Int) : slope cs = (List.range (cs.length - 1)).map fun (i : Nat) => (1 + (i : Int)) * cs.getD (i + 1) 0 := by
  cases cs with
  | nil => rfl
  | cons c cs =>
    show slopeL 1 cs = _
    rw [slopeL_eq]
    rfl
theorem pval_mod {p x y : Int} (h : p ∣ x - y) : ∀ cs : List Int, p ∣ pval cs x - pval cs y
  | [] => by simp [pval]
  | c :: cs => by
    obtain ⟨a, ha⟩ := h
    obtain ⟨b, hb⟩ := pval_mod ⟨a, ha⟩ cs
    refine ⟨b * x + pval cs y * a, ?_⟩
    simp only [pval]
    have e : pval cs x * x + c - (pval cs y * y + c) = (pval cs x - pval cs y) * x + pval cs y * (x - y) := by grind
    rw [e, ha, hb]
    grind
theorem pder_mod {p x y : Int} (h : p ∣ x - y) (cs : List Int) : p ∣ pder cs x - pder cs y := by
  rw [← slope_val, ← slope_val]
  exact pval_mod h _
theorem taylor (x h : Int) : ∀ cs : List Int, ∃ t : Int, pval cs (x + h) = pval cs x + h * pder cs x + h * h * t
  | [] => ⟨0, by simp [pval, pder]⟩
  | c :: cs => by
    obtain ⟨t, ht⟩ := taylor x h cs
    refine ⟨pder cs x + t * x + h * t, ?_⟩
    simp only [pval, pder, ht]
    grind
/-- one lift: q divides the value, then q p divides the next -/
theorem hensel_step {cs : List Int} {p q x x0 b x' : Int} (hq : q ∣ pval cs x) (pq : p ∣ q) (hx : p ∣ x - x0) (hb : p ∣ b * pder cs x0 - 1) (hx' : q * p ∣ x' - (x - pval cs x * b)) : q * p ∣ pval cs x' ∧ p ∣ x' - x0 := by
  obtain ⟨t, ht⟩ := taylor x (-(pval cs x * b)) cs
  have e1 : q * p ∣ pval cs (x - pval cs x * b) := by
    rw [Int.sub_eq_add_neg, ht]
    obtain ⟨v, hv⟩ := hq
    obtain ⟨d, hd⟩ := pder_mod hx cs
    obtain ⟨g, hg⟩ := hb
    obtain ⟨r, hr⟩ := pq
    refine ⟨v * (-(b * d) - g) + v * v * b * b * t * r, ?_⟩
    rw [hv]
    have e2 : pder cs x = pder cs x0 + p * d := by omega
    have e3 : b * pder cs x0 = 1 + p * g := by omega
    have e4 : q * v + -(q * v * b) * (pder cs x0 + p * d) = q * v * (1 - b * pder cs x0) - q * v * b * p * d := by grind
    rw [e2, e4, e3]
    have e5 : -(q * v * b) * -(q * v * b) * t = q * q * (v * v * b * b * t) := by grind
    rw [e5]
    conv => lhs; rhs; rw [show q * q = q * (p * r) by rw [← hr]]
    grind
  have e6 := pval_mod hx' cs
  refine ⟨?_, ?_⟩
  · have := Int.dvd_add e6 e1
    rwa [Int.sub_add_cancel] at this
  · have h1 : p ∣ x' - (x - pval cs x * b) := Int.dvd_trans (Int.dvd_mul_left _ _) hx'
    have h2 : p ∣ pval cs x * b := Int.dvd_mul_of_dvd_left (Int.dvd_trans pq hq)
    have e : x' - x0 = (x' - (x - pval cs x * b)) + ((x - x0) - pval cs x * b) := by omega
    rw [e]
    exact Int.dvd_add h1 (Int.dvd_sub hx h2)
/-- how great the values are -/
structure PolyB (cs : List Int) (x : Int) (b c : Nat) : Prop where
  cb : ∀ a ∈ cs, a.natAbs < 2 ^ b
  xb : x.natAbs < 2 ^ c
  fit : cs.length * (b + c + 1) + b + c ≤ 100000
theorem pval_bits {x : Int} {b c : Nat} (hx : x.natAbs < 2 ^ c) : ∀ {cs : List Int}, (∀ a ∈ cs, a.natAbs < 2 ^ b) → (pval cs x).natAbs < 2 ^ (cs.length * (b + c + 1))
  | [], _ => by show (0 : Int).natAbs < 2 ^ (0 * (b + c + 1)); rw [Nat.zero_mul]; decide
  | a :: cs, h => by
    have q := pval_bits hx (cs := cs) fun z hz => h z (List.mem_cons_of_mem _ hz)
    have := bits_add (bits_mul q hx) (h a List.mem_cons_self)
    refine bits_mono this ?_
    rw [List.length_cons, Nat.succ_mul]
    omega
local macro_rules | `(tactic| walk_at "d1") => `(tactic| try simp only [dSeq, dSkip, dPass, dRet, dRetN, dDrop, dCond, dAsg, gNm, gTp, dOwn, dOwnL, dPar, dAug, dApp, dExt, dFrz, dFor, dLc, dBreak, dCont, dVar, dC, dOp, dT, dIsi, dNeg, dNot, dTNot, dAnd, dOr, dTAnd, dTOr, dIf, dCh, dNil, dCons, dTup, dLst, dIxO, dB, dCall, dCallW, dItems, dRng1, dRng2, dYes, fnE, startE, startW, startS, dLenO, dLenS, dIxS, dSl, dPt, dNo, wipeE, addD_int, addD_str, addD_tup, addD_lst, subD_int, mulD_int, mulD_tup, mulD_lst, fdivD_int, modD_int, powD_int, shlD_int, shrD_int, andD_int, ltD_int, leD_int, gtD_int, geD_int, eqD_ap, neD_ap, isD_ap, isNotD_ap, isNon_none, isNon_int, isNon_bool, isNon_str, isNon_tup, isNon_lst, isInt_none, isInt_int, isInt_bool, isInt_str, isInt_tup, isInt_lst, isBool_none, isBool_int, isBool_bool, isBool_str, isBool_tup, isBool_lst, isStr_none, isStr_int, isStr_bool, isStr_str, isStr_tup, isStr_lst, isTup_none, isTup_int, isTup_bool, isTup_str, isTup_tup, isTup_lst, isLst_lst, Cnd_true, Cnd_false, Cnd_not, Cnd_dec, asB_bool, forall_const, true_implies, false_implies, implies_true, decide_true, decide_false, Classical.not_not, negD_int, notD_bool, onVal_val, onOwn_own, onDic_dic, onScr_scr, onWv_wv, onInt_int, onTup_tup, onLst_lst, onItems_lst, onItems_tup, frz1_own, frz1_val, frz1_un, ixD_lst, ixD_tup, ixL_int, optD_some, optI_some, absD_int, intD_int, intD_bool, lenD_lst, lenD_tup, lenD_str, tupleD_lst, tupleD_tup, listD_lst, listD_tup, min2D_int, max2D_int, sumD_ints, allD_bls, anyD_bls, slD_lst, slD_tup, slD_str, gNl_nil, gCs_cons, par2_two, seq1_lst, seq1_tup, rng1D_int, rng2D_int, gt_z, gt_s, sp_next_int, set_z, set_s, List.map_cons, List.map_nil, List.length_cons, List.length_nil, List.cons_append, List.nil_append, List.replicate, Nat.reduceAdd, Nat.reduceSub, Nat.zero_add, shaped_int, shaped_bool, shaped_none, shaped_listI, shaped_tupI, shaped_nilL, shaped_nilT, eqv_int, eqv_bool, eqv_str, eqv_none, eqv_list_nil, List.isEmpty_nil, List.isEmpty_cons, Bool.true_eq_false, Bool.false_eq_true, decide_eq_true_eq, and_self, true_and, and_true, not_dec, Bool.not_eq_true', decide_eq_false_iff_not, atI_0, atI_1, atI_2, ite_true, ite_false, if_true, if_false, reduceIte, Bool.not_true, Bool.not_false, not_true_eq_false, not_false_eq_true, List.set_cons_zero, List.set_cons_succ, dPar3, dRev, par3_three, sortedD_ints, revD_tup, two_nat, one_nat, three_nat, dCh3, dOwnC, dPutPar, putPar_two, dZip2, zip2D_lst, zip2D_tup, dPut, isBD_bl, isNotBD_bl, dNewO, dPutO, dSortedO, putKD_int, dPar3O, dParO2, par3O_two, parO2_one, minLD_lst, dKeysW, rdPairs_nil, rdPairs_cons, onPair_ii, revD_lst])
local macro_rules | `(tactic| walk_at "dd") => `(tactic| (walk_at "d1"; repeat (with_reducible (refine then_intro ?_); walk_at "d1")))
theorem PrimeI.euclid {p : Nat} (h : PrimeI p) {a b : Int} (d : (p : Int) ∣ a * b) : (p : Int) ∣ a ∨ (p : Int) ∣ b := by
  by_cases z : (p : Int) ∣ a
  · exact .inl z
  · right
    have hg := h.gcd z
    have hc : Nat.Coprime p a.natAbs := by
      show Nat.gcd p a.natAbs = 1
      rw [Nat.gcd_comm]
      exact hg
    rw [← Int.natAbs_dvd_natAbs, Int.natAbs_mul] at d
    exact Int.natAbs_dvd_natAbs.mp (hc.dvd_of_dvd_mul_left d)
theorem PrimeI.pow {p : Nat} (h : PrimeI p) {a : Int} : ∀ n : Nat, (p : Int) ∣ a ^ n → (p : Int) ∣ a
  | 0, d => by
    have := h.1
    rw [Int.pow_zero] at d
    have := Int.le_of_dvd (by decide) d
    omega
  | n + 1, d => by
    rw [Int.pow_succ] at d
    rcases h.euclid d with d | d
    · exact h.pow n d
    · exact d
theorem PrimeI.small {p : Nat} (h : PrimeI p) {a : Int} (h0 : 0 < a) (h1 : a < p) : ¬ (p : Int) ∣ a := fun d => by
  have := Int.le_of_dvd h0 d
  omega
theorem PrimeI.diff {p : Nat} (h : PrimeI p) {a b : Int} (a0 : 0 ≤ a) (a1 : a < p) (b0 : 0 ≤ b) (b1 : b < p) (d : (p : Int) ∣ a - b) : a = b := by
  rcases Int.lt_trichotomy a b with z | z | z
  · have d' : (p : Int) ∣ b - a := by rw [← Int.dvd_neg, Int.neg_sub]; exact d
    exact absurd d' (h.small (by omega) (by omega))
  · exact z
  · exact absurd d (h.small (by omega) (by omega))
/-- x^n goes with x modulo m -/
theorem pow_cong {m a b : Int} (d : m ∣ a - b) : ∀ n : Nat, m ∣ a ^ n - b ^ n
  | 0 => by rw [Int.pow_zero, Int.pow_zero]; exact ⟨0, by omega⟩
  | n + 1 => by
    have ih := pow_cong d n
    have e : a ^ (n + 1) - b ^ (n + 1) = (a ^ n - b ^ n) * a + b ^ n * (a - b) := by grind
    rw [e]
    exact Int.dvd_add (Int.dvd_mul_of_dvd_left ih) (Int.dvd_mul_of_dvd_right d)
/-- division by x - r -/
def quoP (r : Int) : List Int → List Int
  | [] => []
  | [_] => []
  | _ :: c :: cs => pval (c :: cs) r :: quoP r (c :: cs)
theorem quoP_len (r : Int) : ∀ cs, (quoP r cs).length = cs.length - 1
  | [] => rfl
  | [_] => rfl
  | _ :: c :: cs => by
    rw [quoP, List.length_cons, quoP_len r (c :: cs)]
    simp
theorem quoP_val (r x : Int) : ∀ cs, pval cs x - pval cs r = (x - r) * pval (quoP r cs) x
  | [] => by simp [pval, quoP]
  | [c] => by simp [pval, quoP]
  | d :: c :: cs => by
    have ih := quoP_val r x (c :: cs)
    show pval (c :: cs) x * x + d - (pval (c :: cs) r * r + d) = (x - r) * (pval (quoP r (c :: cs)) x * x + pval (c :: cs) r)
    generalize pval (c :: cs) x = A at *
    generalize pval (c :: cs) r = B at *
    generalize pval (quoP r (c :: cs)) x = C at *
    have : A = B + (x - r) * C := by omega
    subst this
    grind
theorem quoP_zero {m r : Int} : ∀ cs, m ∣ pval cs r → (∀ c ∈ quoP r cs, m ∣ c) → ∀ c ∈ cs, m ∣ c
  | [], _, _, c, hc => nomatch hc
  | [d], h, _, c, hc => by
    rw [List.mem_singleton] at hc
    subst hc
    simpa [pval] using h
  | d :: e :: cs, h, hq, c, hc => by
    rw [quoP] at hq
    have h1 : m ∣ pval (e :: cs) r := hq _ List.mem_cons_self
    rcases List.mem_cons.mp hc with rfl | hc
    · rw [pval] at h
      have := Int.dvd_sub h (Int.dvd_mul_of_dvd_left (c := r) h1)
      rwa [show pval (e :: cs) r * r + c - pval (e :: cs) r * r = c by omega] at this
    · exact quoP_zero (e :: cs) h1 (fun c hc => hq c (List.mem_cons_of_mem _ hc)) c hc
/-- not more zeros than the degree -/
theorem lagrange {p : Nat} (hp : PrimeI p) : ∀ (rs cs : List Int), (∀ r ∈ rs, (p : Int) ∣ pval cs r) → rs.Pairwise (fun x y => ¬ (p : Int) ∣ x - y) → cs.length ≤ rs.length → ∀ c ∈ cs, (p : Int) ∣ c
  | [], cs, _, _, hl, c, hc => by
    have := List.length_eq_zero_iff.mp (Nat.le_zero.mp hl)
    subst this
    nomatch hc
  | r :: rs, cs, hr, hd, hl, c, hc => by
    rw [List.pairwise_cons] at hd
    have h0 := hr r List.mem_cons_self
    refine quoP_zero cs h0 (lagrange hp rs (quoP r cs) (fun x hx => ?_) hd.2 ?_) c hc
    · have h1 := hr x (List.mem_cons_of_mem _ hx)
      have h2 := Int.dvd_sub h1 h0
      rw [quoP_val] at h2
      rcases hp.euclid h2 with h2 | h2
      · have := hd.1 x hx
        refine absurd ?_ this
        rw [← Int.dvd_neg, Int.neg_sub]
        exact h2
      · exact h2
    · rw [quoP_len]
      rw [List.length_cons] at hl
      omega
/-- x^n - 1 -/
def powP (n : Nat) : List Int := -1 :: (List.replicate (n - 1) 0 ++ [1])
theorem rep_val (x : Int) : ∀ n : Nat, pval (List.replicate n 0 ++ [1]) x = x ^ n
  | 0 => by simp [pval]
  | n + 1 => by
    rw [List.replicate_succ, List.cons_append, pval, rep_val x n, Int.pow_succ]
    omega
theorem powP_val {n : Nat} (h : 0 < n) (x : Int) : pval (powP n) x = x ^ n - 1 := by
  unfold powP
  rw [pval, rep_val]
  have : x ^ n = x ^ (n - 1) * x := by rw [← Int.pow_succ, Nat.succ_eq_add_one, show n - 1 + 1 = n by omega]
  omega
/-- x^n = 1 has not more than n answers modulo a prime -/
theorem few_roots {p : Nat} (hp : PrimeI p) {n : Nat} (hn : 0 < n) {rs : List Int} (h : ∀ r ∈ rs, (p : Int) ∣ r ^ n - 1) (hd : rs.Pairwise (fun x y => ¬ (p : Int) ∣ x - y)) : rs.length ≤ n := by
  rcases Nat.lt_or_ge n rs.length with z | z
  · exfalso
    have := lagrange hp rs (powP n) (fun r hr => by rw [powP_val hn]; exact h r hr) hd (by unfold powP; simp; omega) 1 (by unfold powP; simp)
    have h1 := Int.le_of_dvd (by decide) this
    have := hp.1
    omega
  · exact z
theorem nodup_perm {α : Type} [DecidableEq α] : ∀ {l l' : List α}, l.Nodup → (∀ x ∈ l, x ∈ l') → l'.length ≤ l.length → l.Perm l'
  | [], l', _, _, h => by
    have := List.length_eq_zero_iff.mp (Nat.le_zero.mp h)
    subst this
    exact .nil
  | a :: l, l', hn, hs, h => by
    rw [List.nodup_cons] at hn
    have ha := hs a List.mem_cons_self
    have hp := List.perm_cons_erase ha
    refine .trans (.cons a (nodup_perm hn.2 (fun x hx => ?_) ?_)) hp.symm
    · exact (List.mem_erase_of_ne (fun e => hn.1 (by rw [← e]; exact hx))).mpr (hs x (List.mem_cons_of_mem _ hx))
    · rw [List.length_erase_of_mem ha]
      rw [List.length_cons] at h
      omega
def prodL (l : List Int) : Int := l.foldr (· * ·) 1
theorem prodL_cons (a : Int) (l : List Int) : prodL (a :: l) = a * prodL l := rfl
theorem prodL_perm {l l' : List Int} (h : l.Perm l') : prodL l = prodL l' := by
  induction h with
  | nil => rfl
  | cons a _ ih => rw [prodL_cons, prodL_cons, ih]
  | swap a b l => simp only [prodL_cons]; grind
  | trans _ _ h1 h2 => rw [h1, h2]
theorem prodL_scale (a : Int) : ∀ l : List Int, prodL (l.map (a * ·)) = a ^ l.length * prodL l
  | [] => by simp [prodL]
  | b :: l => by
    rw [List.map_cons, prodL_cons, prodL_cons, prodL_scale a l, List.length_cons, Int.pow_succ]
    grind
theorem prodL_cong {m : Int} {f g : Int → Int} : ∀ l : List Int, (∀ x ∈ l, m ∣ f x - g x) → m ∣ prodL (l.map f) - prodL (l.map g)
  | [], _ => by simp [prodL]
  | b :: l, h => by
    have h1 := h b List.mem_cons_self
    have h2 := prodL_cong l fun x hx => h x (List.mem_cons_of_mem _ hx)
    rw [List.map_cons, List.map_cons, prodL_cons, prodL_cons]
    generalize prodL (l.map f) = A at *
    generalize prodL (l.map g) = B at *
    have e : f b * A - g b * B = (f b - g b) * A + g b * (A - B) := by grind
    rw [e]
    exact Int.dvd_add (Int.dvd_mul_of_dvd_left h1) (Int.dvd_mul_of_dvd_right h2)
theorem prodL_ndvd {p : Nat} (hp : PrimeI p) : ∀ l : List Int, (∀ x ∈ l, ¬ (p : Int) ∣ x) → ¬ (p : Int) ∣ prodL l
  | [], _ => fun d => by
    have := Int.le_of_dvd (by decide) (show (p : Int) ∣ 1 from d)
    have := hp.1
    omega
  | b :: l, h => fun d => by
    rcases hp.euclid d with d | d
    · exact h b List.mem_cons_self d
    · exact prodL_ndvd hp l (fun x hx => h x (List.mem_cons_of_mem _ hx)) d
/-- 1 .. n -/
def upTo (n : Nat) : List Int := (List.range n).map fun (i : Nat) => (i : Int) + 1
theorem mem_upTo {n : Nat} {x : Int} : x ∈ upTo n ↔ 1 ≤ x ∧ x ≤ n := by
  unfold upTo
  rw [List.mem_map]
  constructor
  · rintro ⟨i, hi, rfl⟩
    rw [List.mem_range] at hi
    omega
  · rintro ⟨h1, h2⟩
    exact ⟨(x - 1).toNat, by rw [List.mem_range]; omega, by omega⟩
theorem upTo_len (n : Nat) : (upTo n).length = n := by unfold upTo; simp
theorem upTo_nodup (n : Nat) : (upTo n).Nodup := by
  unfold upTo
  unfold List.Nodup
  rw [List.pairwise_map]
  exact (List.nodup_range (n := n)).imp fun {a b} h e => h (by omega)
theorem upTo_perm {n : Nat} {f : Int → Int} (h1 : ∀ x ∈ upTo n, f x ∈ upTo n) (h2 : ∀ x ∈ upTo n, ∀ y ∈ upTo n, f x = f y → x = y) : ((upTo n).map f).Perm (upTo n) := by
  refine nodup_perm ?_ (fun x hx => ?_) (by rw [List.length_map]; exact Nat.le_refl _)
  · unfold List.Nodup
    rw [List.pairwise_map]
    have := upTo_nodup n
    unfold List.Nodup at this
    refine List.Pairwise.imp_of_mem (fun {a b} ha hb h e => h (h2 a ha b hb e)) this
  · obtain ⟨y, hy, rfl⟩ := List.mem_map.mp hx
    exact h1 y hy
theorem fermat {p : Nat} (hp : PrimeI p) {a : Int} (ha : ¬ (p : Int) ∣ a) : (p : Int) ∣ a ^ (p - 1) - 1 := by
  have h2 := hp.1
  have hp0 : (0 : Int) < p := by omega
  let f : Int → Int := fun x => a * x % p
  have hx0 : ∀ x ∈ upTo (p - 1), ¬ (p : Int) ∣ x := fun x hx => by
    rw [mem_upTo] at hx
    exact hp.small (by omega) (by omega)
  have hf : ∀ x, (p : Int) ∣ a * x - f x := fun x => by
    have := Int.mul_ediv_add_emod (a * x) p
    exact ⟨a * x / p, by show a * x - a * x % p = _; omega⟩
  have hpm := upTo_perm (n := p - 1) (f := f) (fun x hx => by
    have h0 := Int.emod_nonneg (a * x) (show (p : Int) ≠ 0 by omega)
    have h1 := Int.emod_lt_of_pos (a * x) hp0
    have h3 : a * x % p ≠ 0 := fun z => by
      rcases hp.euclid (Int.dvd_of_emod_eq_zero z) with z | z
      · exact ha z
      · exact hx0 x hx z
    rw [mem_upTo]
    show 1 ≤ a * x % p ∧ a * x % p ≤ _
    omega) (fun x hx y hy e => by
    have h1 := Int.dvd_sub (hf x) (hf y)
    rw [e, show a * x - f y - (a * y - f y) = a * (x - y) by grind] at h1
    rw [mem_upTo] at hx hy
    rcases hp.euclid h1 with z | z
    · exact absurd z ha
    · exact hp.diff (by omega) (by omega) (by omega) (by omega) z)
  have e1 := prodL_perm hpm
  have e2 := prodL_cong (m := p) (f := (a * ·)) (g := f) (upTo (p - 1)) fun x _ => hf x
  rw [e1, prodL_scale, upTo_len] at e2
  have e3 : a ^ (p - 1) * prodL (upTo (p - 1)) - prodL (upTo (p - 1)) = (a ^ (p - 1) - 1) * prodL (upTo (p - 1)) := by grind
  rw [e3] at e2
  rcases hp.euclid e2 with z | z
  · exact z
  · exact absurd z (prodL_ndvd hp _ hx0)
/-- a square modulo p -/
def SqM (p : Nat) (a : Int) : Prop := ∃ x : Int, (p : Int) ∣ x * x - a
/-- half the prime less one -/
theorem half_one {p : Nat} (hp : PrimeI p) (ho : p % 2 = 1) {a : Int} (ha : ¬ (p : Int) ∣ a) : (p : Int) ∣ a ^ ((p - 1) / 2) - 1 ∨ (p : Int) ∣ a ^ ((p - 1) / 2) + 1 := by
  have h := fermat hp ha
  have e : p - 1 = (p - 1) / 2 + (p - 1) / 2 := by omega
  have e2 : a ^ (p - 1) = a ^ ((p - 1) / 2) * a ^ ((p - 1) / 2) := by rw [← Int.pow_add, ← e]
  rw [e2] at h
  generalize a ^ ((p - 1) / 2) = B at *
  rw [show B * B - 1 = (B - 1) * (B + 1) by grind] at h
  exact hp.euclid h
theorem euler_sq {p : Nat} (hp : PrimeI p) (ho : p % 2 = 1) {a : Int} (ha : ¬ (p : Int) ∣ a) (hs : SqM p a) : (p : Int) ∣ a ^ ((p - 1) / 2) - 1 := by
  obtain ⟨x, hx⟩ := hs
  have hx0 : ¬ (p : Int) ∣ x := fun z => ha (by
    have := Int.dvd_sub (Int.dvd_mul_of_dvd_left (c := x) z) hx
    rwa [show x * x - (x * x - a) = a by omega] at this)
  have h1 := pow_cong hx ((p - 1) / 2)
  rw [Int.mul_pow, ← Int.pow_add, show (p - 1) / 2 + (p - 1) / 2 = p - 1 by omega] at h1
  have h2 := fermat hp hx0
  have := Int.dvd_sub h2 h1
  rwa [show x ^ (p - 1) - 1 - (x ^ (p - 1) - a ^ ((p - 1) / 2)) = a ^ ((p - 1) / 2) - 1 by omega] at this
theorem euler_only {p : Nat} (hp : PrimeI p) (ho : p % 2 = 1) {a : Int} (ha : ¬ (p : Int) ∣ a) (h : (p : Int) ∣ a ^ ((p - 1) / 2) - 1) : SqM p a := by
  have h2 := hp.1
  by_cases z : SqM p a
  · exact z
  · exfalso
    have hlen := few_roots hp (n := (p - 1) / 2) (by omega) (rs := a :: (upTo ((p - 1) / 2)).map fun x => x * x) (fun r hr => ?_) ?_
    · rw [List.length_cons, List.length_map, upTo_len] at hlen
      omega
    · rcases List.mem_cons.mp hr with rfl | hr
      · exact h
      · obtain ⟨x, hx, rfl⟩ := List.mem_map.mp hr
        rw [mem_upTo] at hx
        have hx0 := hp.small (a := x) (by omega) (by omega)
        exact euler_sq hp ho (fun d => by rcases hp.euclid d with d | d <;> exact hx0 d) ⟨x, by rw [Int.sub_self]; exact ⟨0, by omega⟩⟩
    · rw [List.pairwise_cons]
      refine ⟨fun y hy d => ?_, ?_⟩
      · obtain ⟨x, hx, rfl⟩ := List.mem_map.mp hy
        exact z ⟨x, by rw [← Int.dvd_neg, Int.neg_sub]; exact d⟩
      · rw [List.pairwise_map]
        have hn := upTo_nodup ((p - 1) / 2)
        unfold List.Nodup at hn
        refine List.Pairwise.imp_of_mem (fun {x y} hx hy hne d => ?_) hn
        rw [mem_upTo] at hx hy
        rw [show x * x - y * y = (x - y) * (x + y) by grind] at d
        rcases hp.euclid d with d | d
        · exact hne (hp.diff (by omega) (by omega) (by omega) (by omega) d)
        · exact hp.small (by omega) (by omega) d
theorem euler_not {p : Nat} (hp : PrimeI p) (ho : p % 2 = 1) {a : Int} (ha : ¬ (p : Int) ∣ a) (hs : ¬ SqM p a) : (p : Int) ∣ a ^ ((p - 1) / 2) + 1 := by
  rcases half_one hp ho ha with z | z
  · exact absurd (euler_only hp ho ha z) hs
  · exact z
local macro_rules | `(tactic| walk_at "d1") => `(tactic| try simp only [dSeq, dSkip, dPass, dRet, dRetN, dDrop, dCond, dAsg, gNm, gTp, dOwn, dOwnL, dPar, dAug, dApp, dExt, dFrz, dFor, dLc, dBreak, dCont, dVar, dC, dOp, dT, dIsi, dNeg, dNot, dTNot, dAnd, dOr, dTAnd, dTOr, dIf, dCh, dNil, dCons, dTup, dLst, dIxO, dB, dCall, dCallW, dItems, dRng1, dRng2, dYes, fnE, startE, startW, startS, dLenO, dLenS, dIxS, dSl, dPt, dNo, wipeE, addD_int, addD_str, addD_tup, addD_lst, subD_int, mulD_int, mulD_tup, mulD_lst, fdivD_int, modD_int, powD_int, shlD_int, shrD_int, andD_int, ltD_int, leD_int, gtD_int, geD_int, eqD_ap, neD_ap, isD_ap, isNotD_ap, isNon_none, isNon_int, isNon_bool, isNon_str, isNon_tup, isNon_lst, isInt_none, isInt_int, isInt_bool, isInt_str, isInt_tup, isInt_lst, isBool_none, isBool_int, isBool_bool, isBool_str, isBool_tup, isBool_lst, isStr_none, isStr_int, isStr_bool, isStr_str, isStr_tup, isStr_lst, isTup_none, isTup_int, isTup_bool, isTup_str, isTup_tup, isTup_lst, isLst_lst, Cnd_true, Cnd_false, Cnd_not, Cnd_dec, asB_bool, forall_const, true_implies, false_implies, implies_true, decide_true, decide_false, Classical.not_not, negD_int, notD_bool, onVal_val, onOwn_own, onDic_dic, onScr_scr, onWv_wv, onInt_int, onTup_tup, onLst_lst, onItems_lst, onItems_tup, frz1_own, frz1_val, frz1_un, ixD_lst, ixD_tup, ixL_int, optD_some, optI_some, absD_int, intD_int, intD_bool, lenD_lst, lenD_tup, lenD_str, tupleD_lst, tupleD_tup, listD_lst, listD_tup, min2D_int, max2D_int, sumD_ints, allD_bls, anyD_bls, slD_lst, slD_tup, slD_str, gNl_nil, gCs_cons, par2_two, seq1_lst, seq1_tup, rng1D_int, rng2D_int, gt_z, gt_s, sp_next_int, set_z, set_s, List.map_cons, List.map_nil, List.length_cons, List.length_nil, List.cons_append, List.nil_append, List.replicate, Nat.reduceAdd, Nat.reduceSub, Nat.zero_add, shaped_int, shaped_bool, shaped_none, shaped_listI, shaped_tupI, shaped_nilL, shaped_nilT, eqv_int, eqv_bool, eqv_str, eqv_none, eqv_list_nil, List.isEmpty_nil, List.isEmpty_cons, Bool.true_eq_false, Bool.false_eq_true, decide_eq_true_eq, and_self, true_and, and_true, not_dec, Bool.not_eq_true', decide_eq_false_iff_not, atI_0, atI_1, atI_2, ite_true, ite_false, if_true, if_false, reduceIte, Bool.not_true, Bool.not_false, not_true_eq_false, not_false_eq_true, List.set_cons_zero, List.set_cons_succ, dPar3, dRev, par3_three, sortedD_ints, revD_tup, two_nat, one_nat, three_nat, dCh3, dOwnC, dPutPar, putPar_two, dZip2, zip2D_lst, zip2D_tup, dPut, isBD_bl, isNotBD_bl, dNewO, dPutO, dSortedO, putKD_int, dPar3O, dParO2, par3O_two, parO2_one, minLD_lst, dKeysW, rdPairs_nil, rdPairs_cons, onPair_ii, revD_lst])
local macro_rules | `(tactic| walk_at "dd") => `(tactic| (walk_at "d1"; repeat (with_reducible (refine then_intro ?_); walk_at "d1")))
def sumL (l : List Int) : Int := l.foldr (· + ·) 0
theorem sumL_cons (a : Int) (l : List Int) : sumL (a :: l) = a + sumL l := rfl
theorem sumL_perm {l l' : List Int} (h : l.Perm l') : sumL l = sumL l' := by
  induction h with
  | nil => rfl
  | cons a _ ih => rw [sumL_cons, sumL_cons, ih]
  | swap a b l => simp only [sumL_cons]; omega
  | trans _ _ h1 h2 => rw [h1, h2]
theorem sumL_add {α : Type} (f g : α → Int) : ∀ l : List α, sumL (l.map fun x => f x + g x) = sumL (l.map f) + sumL (l.map g)
  | [] => rfl
  | a :: l => by
    simp only [List.map_cons, sumL_cons]
    rw [sumL_add f g l]
    omega
theorem sumL_scale {α : Type} (c : Int) (f : α → Int) : ∀ l : List α, sumL (l.map fun x => c * f x) = c * sumL (l.map f)
  | [] => (Int.mul_zero c).symm
  | a :: l => by
    simp only [List.map_cons, sumL_cons]
    rw [sumL_scale c f l, Int.mul_add]
theorem sumL_same {α : Type} {f g : α → Int} : ∀ {l : List α}, (∀ x ∈ l, f x = g x) → sumL (l.map f) = sumL (l.map g)
  | [], _ => rfl
  | a :: l, h => by
    simp only [List.map_cons, sumL_cons]
    rw [h a List.mem_cons_self, sumL_same fun x hx => h x (List.mem_cons_of_mem _ hx)]
theorem sumL_const {α : Type} (c : Int) : ∀ l : List α, sumL (l.map fun _ => c) = c * l.length
  | [] => (Int.mul_zero c).symm
  | a :: l => by
    simp only [List.map_cons, sumL_cons, List.length_cons]
    rw [sumL_const c l]
    grind
theorem sumL_swap {α β : Type} (f : α → β → Int) (l : List α) : ∀ m : List β, sumL (l.map fun x => sumL (m.map fun y => f x y)) = sumL (m.map fun y => sumL (l.map fun x => f x y))
  | [] => by
    show sumL (l.map fun _ => 0) = 0
    rw [sumL_const, Int.zero_mul]
  | b :: m => by
    simp only [List.map_cons, sumL_cons]
    rw [sumL_add, sumL_swap f l m]
theorem sumL_mod2 {α : Type} {f g : α → Int} : ∀ {l : List α}, (∀ x ∈ l, (f x - g x) % 2 = 0) → (sumL (l.map f) - sumL (l.map g)) % 2 = 0
  | [], _ => rfl
  | a :: l, h => by
    have h1 := h a List.mem_cons_self
    have h2 := sumL_mod2 fun x hx => h x (List.mem_cons_of_mem _ hx)
    simp only [List.map_cons, sumL_cons]
    omega
def ind (b : Prop) [Decidable b] : Int := if b then 1 else 0
theorem ind_nonneg {α : Type} (c : α → Prop) [DecidablePred c] : ∀ l : List α, 0 ≤ sumL (l.map fun x => ind (c x))
  | [] => Int.le_refl _
  | a :: l => by
    have := ind_nonneg c l
    simp only [List.map_cons, sumL_cons]
    unfold ind at *
    split <;> omega
theorem prodL_signs (c : Int → Prop) [DecidablePred c] (f : Int → Int) : ∀ l : List Int, prodL (l.map fun x => if c x then -f x else f x) = (-1) ^ (sumL (l.map fun x => ind (c x))).toNat * prodL (l.map f)
  | [] => rfl
  | a :: l => by
    have ih := prodL_signs c f l
    have h0 := ind_nonneg c l
    simp only [List.map_cons, prodL_cons, sumL_cons]
    rw [ih]
    generalize hS : sumL (l.map fun x => ind (c x)) = S at *
    by_cases z : c a
    · rw [if_pos z, show ind (c a) = 1 from if_pos z, show (1 + S).toNat = S.toNat + 1 by omega, Int.pow_succ]
      grind
    · rw [if_neg z, show ind (c a) = 0 from if_neg z, show (0 + S).toNat = S.toNat by omega]
      grind
section
variable {p : Nat} {a : Int}
def gR (p : Nat) (a x : Int) : Int := a * x % p
def gC (p : Nat) (a x : Int) : Prop := (((p - 1) / 2 : Nat) : Int) < gR p a x
instance (p : Nat) (a x : Int) : Decidable (gC p a x) := inferInstanceAs (Decidable (_ < _))
def gS (p : Nat) (a x : Int) : Int := if gC p a x then (p : Int) - gR p a x else gR p a x
def gM (p : Nat) (a : Int) : Int := sumL ((upTo ((p - 1) / 2)).map fun x => ind (gC p a x))
theorem gM_nonneg (p : Nat) (a : Int) : 0 ≤ gM p a := ind_nonneg _ _
theorem gR_pos (hp : PrimeI p) (ha : ¬ (p : Int) ∣ a) {x : Int} (hx : x ∈ upTo ((p - 1) / 2)) : 0 < gR p a x ∧ gR p a x < p := by
  have h2 := hp.1
  have h0 := Int.emod_nonneg (a * x) (show (p : Int) ≠ 0 by omega)
  have h1 := Int.emod_lt_of_pos (a * x) (show (0 : Int) < p by omega)
  rw [mem_upTo] at hx
  have h3 : a * x % p ≠ 0 := fun z => by
    rcases hp.euclid (Int.dvd_of_emod_eq_zero z) with z | z
    · exact ha z
    · exact hp.small (by omega) (by omega) z
  unfold gR
  omega
theorem gR_dvd (p : Nat) (a x : Int) : (p : Int) ∣ a * x - gR p a x := by
  have := Int.mul_ediv_add_emod (a * x) p
  exact ⟨a * x / p, by show a * x - a * x % p = _; omega⟩
theorem gS_mem (hp : PrimeI p) (ho : p % 2 = 1) (ha : ¬ (p : Int) ∣ a) {x : Int} (hx : x ∈ upTo ((p - 1) / 2)) : gS p a x ∈ upTo ((p - 1) / 2) := by
  obtain ⟨h0, h1⟩ := gR_pos hp ha hx
  rw [mem_upTo]
  have hc : gC p a x ↔ (((p - 1) / 2 : Nat) : Int) < gR p a x := Iff.rfl
  unfold gS
  by_cases z : gC p a x
  · rw [if_pos z]
    rw [hc] at z
    omega
  · rw [if_neg z]
    rw [hc] at z
    omega
theorem gS_inj (hp : PrimeI p) (ho : p % 2 = 1) (ha : ¬ (p : Int) ∣ a) {x y : Int} (hx : x ∈ upTo ((p - 1) / 2)) (hy : y ∈ upTo ((p - 1) / 2)) (e : gS p a x = gS p a y) : x = y := by
  have dx := gR_dvd p a x
  have dy := gR_dvd p a y
  rw [mem_upTo] at hx hy
  have key : (p : Int) ∣ a * (x - y) ∨ (p : Int) ∣ a * (x + y) := by
    unfold gS at e
    generalize gR p a x = r at *
    generalize gR p a y = s at *
    obtain ⟨u, hu⟩ := dx
    obtain ⟨v, hv⟩ := dy
    have e1 : a * (x - y) = a * x - a * y := by grind
    have e2 : a * (x + y) = a * x + a * y := by grind
    have m1 : (p : Int) * (u - v) = p * u - p * v := by grind
    have m2 : (p : Int) * (u + v + 1) = p * u + p * v + p := by grind
    rw [e1, e2]
    split at e <;> split at e
    · exact .inl ⟨u - v, by omega⟩
    · exact .inr ⟨u + v + 1, by omega⟩
    · exact .inr ⟨u + v + 1, by omega⟩
    · exact .inl ⟨u - v, by omega⟩
  rcases key with d | d
  · rcases hp.euclid d with d | d
    · exact absurd d ha
    · exact hp.diff (by omega) (by omega) (by omega) (by omega) d
  · rcases hp.euclid d with d | d
    · exact absurd d ha
    · exact absurd d (hp.small (by omega) (by omega))
theorem gS_perm (hp : PrimeI p) (ho : p % 2 = 1) (ha : ¬ (p : Int) ∣ a) : ((upTo ((p - 1) / 2)).map (gS p a)).Perm (upTo ((p - 1) / 2)) :=
  upTo_perm (fun x hx => gS_mem hp ho ha hx) fun x hx y hy e => gS_inj hp ho ha hx hy e
theorem gauss (hp : PrimeI p) (ho : p % 2 = 1) (ha : ¬ (p : Int) ∣ a) : (p : Int) ∣ a ^ ((p - 1) / 2) - (-1) ^ (gM p a).toNat := by
  have e1 := prodL_cong (m := p) (f := (a * ·)) (g := fun x => if gC p a x then -gS p a x else gS p a x) (upTo ((p - 1) / 2)) fun x _ => by
    have h := gR_dvd p a x
    show (p : Int) ∣ a * x - (if gC p a x then -gS p a x else gS p a x)
    unfold gS
    split
    · obtain ⟨u, hu⟩ := h
      exact ⟨u + 1, by have : (p : Int) * (u + 1) = p * u + p := by grind
                       omega⟩
    · exact h
  rw [prodL_signs, prodL_perm (gS_perm hp ho ha), prodL_scale, upTo_len] at e1
  have e3 : a ^ ((p - 1) / 2) * prodL (upTo ((p - 1) / 2)) - (-1) ^ (gM p a).toNat * prodL (upTo ((p - 1) / 2)) = (a ^ ((p - 1) / 2) - (-1) ^ (gM p a).toNat) * prodL (upTo ((p - 1) / 2)) := by grind
  have e4 : (p : Int) ∣ a ^ ((p - 1) / 2) * prodL (upTo ((p - 1) / 2)) - (-1) ^ (gM p a).toNat * prodL (upTo ((p - 1) / 2)) := e1
  rw [e3] at e4
  rcases hp.euclid e4 with z | z
  · exact z
  · refine absurd z (prodL_ndvd hp _ fun x hx => ?_)
    rw [mem_upTo] at hx
    exact hp.small (by omega) (by omega)
/-- the sum of the quotients tells the count -/
theorem eisen (hp : PrimeI p) (ho : p % 2 = 1) (ha : ¬ (p : Int) ∣ a) :
    (a * sumL (upTo ((p - 1) / 2)) - sumL ((upTo ((p - 1) / 2)).map fun x => a * x / p) - sumL (upTo ((p - 1) / 2)) - gM p a) % 2 = 0 := by
  have h1 := sumL_mod2 (l := upTo ((p - 1) / 2)) (f := fun x => a * x) (g := fun x => a * x / p + (gS p a x + ind (gC p a x))) fun x _ => by
    have e := Int.mul_ediv_add_emod (a * x) p
    show (a * x - (a * x / p + (gS p a x + ind (gC p a x)))) % 2 = 0
    unfold gS ind gR
    generalize a * x / p = Q at *
    generalize a * x % p = r at *
    obtain ⟨h, hh⟩ : ∃ h : Int, (p : Int) = 2 * h + 1 := ⟨((p / 2 : Nat) : Int), by omega⟩
    have e2 : (p : Int) * Q = 2 * (h * Q) + Q := by rw [hh]; grind
    split <;> omega
  rw [sumL_add, sumL_add, sumL_perm (gS_perm hp ho ha)] at h1
  have h2 : sumL ((upTo ((p - 1) / 2)).map fun x => a * x) = a * sumL (upTo ((p - 1) / 2)) := by
    have := sumL_scale a (fun x : Int => x) (upTo ((p - 1) / 2))
    rw [List.map_id'] at this
    exact this
  rw [h2] at h1
  unfold gM
  omega
end
theorem upTo_succ (n : Nat) : upTo (n + 1) = upTo n ++ [(n : Int) + 1] := by unfold upTo; rw [List.range_succ, List.map_append]; rfl
theorem sumL_app (l m : List Int) : sumL (l ++ m) = sumL l + sumL m := by
  induction l with
  | nil => exact (Int.zero_add _).symm
  | cons a l ih => rw [List.cons_append, sumL_cons, sumL_cons, ih]; omega
/-- 1 + .. + n -/
theorem sum_upTo (n : Nat) : 2 * sumL (upTo n) = n * (n + 1) := by
  induction n with
  | zero => rfl
  | succ n ih =>
    rw [upTo_succ, sumL_app]
    show 2 * (sumL (upTo n) + ((n : Int) + 1 + 0)) = ((n + 1 : Nat) : Int) * (((n + 1 : Nat) : Int) + 1)
    rw [Int.natCast_add]
    have : ((n : Int) + ((1 : Nat) : Int)) * ((n : Int) + ((1 : Nat) : Int) + 1) = n * (n + 1) + 2 * (n + 1) := by
      show ((n : Int) + 1) * ((n : Int) + 1 + 1) = _
      grind
    rw [this]
    omega
/-- how many of 1 .. n are at most c -/
theorem count_le {n : Nat} {c : Int} (h0 : 0 ≤ c) (h1 : c ≤ n) : sumL ((upTo n).map fun y => ind (y ≤ c)) = c := by
  have key : ∀ n : Nat, sumL ((upTo n).map fun y => ind (y ≤ c)) = min c n := fun n => by
    induction n with
    | zero => show (0 : Int) = min c 0; omega
    | succ n ih =>
      rw [upTo_succ, List.map_append, sumL_app, ih]
      show min c n + (ind ((n : Int) + 1 ≤ c) + 0) = min c ((n + 1 : Nat) : Int)
      unfold ind
      split <;> omega
  rw [key]
  omega
theorem lattice {h k : Nat} (hc : ∀ x y : Int, x ∈ upTo h → y ∈ upTo k → (2 * (k : Int) + 1) * x ≠ (2 * (h : Int) + 1) * y) :
    sumL ((upTo h).map fun x => (2 * (k : Int) + 1) * x / (2 * (h : Int) + 1)) + sumL ((upTo k).map fun y => (2 * (h : Int) + 1) * y / (2 * (k : Int) + 1)) = h * k := by
  have half : ∀ (h k : Nat), sumL ((upTo h).map fun x => (2 * (k : Int) + 1) * x / (2 * (h : Int) + 1)) = sumL ((upTo h).map fun x => sumL ((upTo k).map fun y => ind ((2 * (h : Int) + 1) * y ≤ (2 * (k : Int) + 1) * x))) := fun h k => by
    refine sumL_same fun x hx => ?_
    rw [mem_upTo] at hx
    have hP : (0 : Int) < 2 * (h : Int) + 1 := by omega
    have hq : 0 ≤ (2 * (k : Int) + 1) * x := Int.mul_nonneg (by omega) (by omega)
    have hc0 : 0 ≤ (2 * (k : Int) + 1) * x / (2 * (h : Int) + 1) := Int.ediv_nonneg hq (by omega)
    have hck : (2 * (k : Int) + 1) * x / (2 * (h : Int) + 1) ≤ k := by
      refine Int.lt_add_one_iff.mp ((Int.ediv_lt_iff_lt_mul hP).mpr ?_)
      have : (2 * (k : Int) + 1) * x ≤ (2 * (k : Int) + 1) * h := Int.mul_le_mul_of_nonneg_left (by omega) (by omega)
      have e1 : (2 * (k : Int) + 1) * h = 2 * (k * h) + h := by grind
      have e2 : ((k : Int) + 1) * (2 * (h : Int) + 1) = 2 * (k * h) + k + 2 * h + 1 := by grind
      omega
    have := count_le hc0 hck
    refine this.symm.trans (sumL_same fun y hy => ?_)
    unfold ind
    have : y ≤ (2 * (k : Int) + 1) * x / (2 * (h : Int) + 1) ↔ (2 * (h : Int) + 1) * y ≤ (2 * (k : Int) + 1) * x := by
      rw [Int.le_ediv_iff_mul_le hP, Int.mul_comm]
    by_cases z : (2 * (h : Int) + 1) * y ≤ (2 * (k : Int) + 1) * x
    · rw [if_pos z, if_pos (this.mpr z)]
    · rw [if_neg z, if_neg (fun w => z (this.mp w))]
  rw [half h k, half k h, sumL_swap (fun (y x : Int) => ind ((2 * (k : Int) + 1) * x ≤ (2 * (h : Int) + 1) * y)) (upTo k) (upTo h), ← sumL_add]
  have : ∀ x ∈ upTo h, (sumL ((upTo k).map fun y => ind ((2 * (h : Int) + 1) * y ≤ (2 * (k : Int) + 1) * x)) + sumL ((upTo k).map fun y => ind ((2 * (k : Int) + 1) * x ≤ (2 * (h : Int) + 1) * y))) = (k : Int) := fun x hx => by
    rw [← sumL_add]
    refine (sumL_same (g := fun _ => 1) fun y hy => ?_).trans (by rw [sumL_const, upTo_len, Int.one_mul])
    have := hc x y hx hy
    unfold ind
    split <;> split <;> omega
  rw [sumL_same this, sumL_const, upTo_len, Int.mul_comm]
local macro_rules | `(tactic| walk_at "d1") => `(tactic| try simp only [dSeq, dSkip, dPass, dRet, dRetN, dDrop, dCond, dAsg, gNm, gTp, dOwn, dOwnL, dPar, dAug, dApp, dExt, dFrz, dFor, dLc, dBreak, dCont, dVar, dC, dOp, dT, dIsi, dNeg, dNot, dTNot, dAnd, dOr, dTAnd, dTOr, dIf, dCh, dNil, dCons, dTup, dLst, dIxO, dB, dCall, dCallW, dItems, dRng1, dRng2, dYes, fnE, startE, startW, startS, dLenO, dLenS, dIxS, dSl, dPt, dNo, wipeE, addD_int, addD_str, addD_tup, addD_lst, subD_int, mulD_int, mulD_tup, mulD_lst, fdivD_int, modD_int, powD_int, shlD_int, shrD_int, andD_int, ltD_int, leD_int, gtD_int, geD_int, eqD_ap, neD_ap, isD_ap, isNotD_ap, isNon_none, isNon_int, isNon_bool, isNon_str, isNon_tup, isNon_lst, isInt_none, isInt_int, isInt_bool, isInt_str, isInt_tup, isInt_lst, isBool_none, isBool_int, isBool_bool, isBool_str, isBool_tup, isBool_lst, isStr_none, isStr_int, isStr_bool, isStr_str, isStr_tup, isStr_lst, isTup_none, isTup_int, isTup_bool, isTup_str, isTup_tup, isTup_lst, isLst_lst, Cnd_true, Cnd_false, Cnd_not, Cnd_dec, asB_bool, forall_const, true_implies, false_implies, implies_true, decide_true, decide_false, Classical.not_not, negD_int, notD_bool, onVal_val, onOwn_own, onDic_dic, onScr_scr, onWv_wv, onInt_int, onTup_tup, onLst_lst, onItems_lst, onItems_tup, frz1_own, frz1_val, frz1_un, ixD_lst, ixD_tup, ixL_int, optD_some, optI_some, absD_int, intD_int, intD_bool, lenD_lst, lenD_tup, lenD_str, tupleD_lst, tupleD_tup, listD_lst, listD_tup, min2D_int, max2D_int, sumD_ints, allD_bls, anyD_bls, slD_lst, slD_tup, slD_str, gNl_nil, gCs_cons, par2_two, seq1_lst, seq1_tup, rng1D_int, rng2D_int, gt_z, gt_s, sp_next_int, set_z, set_s, List.map_cons, List.map_nil, List.length_cons, List.length_nil, List.cons_append, List.nil_append, List.replicate, Nat.reduceAdd, Nat.reduceSub, Nat.zero_add, shaped_int, shaped_bool, shaped_none, shaped_listI, shaped_tupI, shaped_nilL, shaped_nilT, eqv_int, eqv_bool, eqv_str, eqv_none, eqv_list_nil, List.isEmpty_nil, List.isEmpty_cons, Bool.true_eq_false, Bool.false_eq_true, decide_eq_true_eq, and_self, true_and, and_true, not_dec, Bool.not_eq_true', decide_eq_false_iff_not, atI_0, atI_1, atI_2, ite_true, ite_false, if_true, if_false, reduceIte, Bool.not_true, Bool.not_false, not_true_eq_false, not_false_eq_true, List.set_cons_zero, List.set_cons_succ, dPar3, dRev, par3_three, sortedD_ints, revD_tup, two_nat, one_nat, three_nat, dCh3, dOwnC, dPutPar, putPar_two, dZip2, zip2D_lst, zip2D_tup, dPut, isBD_bl, isNotBD_bl, dNewO, dPutO, dSortedO, putKD_int, dPar3O, dParO2, par3O_two, parO2_one, minLD_lst, dKeysW, rdPairs_nil, rdPairs_cons, onPair_ii, revD_lst])
local macro_rules | `(tactic| walk_at "dd") => `(tactic| (walk_at "d1"; repeat (with_reducible (refine then_intro ?_); walk_at "d1")))
def prodF (ps : List (Nat × Nat)) : Nat := ps.foldl (fun a p => a * p.1 ^ p.2) 1
def plM (ps : List (Nat × Nat)) : Nat := ps.foldl (fun M p => if p.2 % 2 = 1 then M * p.1 else M) 1
def plS (ps : List (Nat × Nat)) : Nat := ps.foldl (fun S p => S * p.1 ^ (p.2 / 2)) 1
def belowF (n : Nat) (ps : List (Nat × Nat)) : Nat := ps.foldl (fun f p => f / p.1 * (p.1 - 1)) n
def blk (fs : List Nat) (p t : Nat) : List Nat := (List.range t).flatMap fun j => fs.map fun d => d * p ^ j
def divL (ps : List (Nat × Nat)) : List Nat := ps.foldl (fun fs p => blk fs p.1 (p.2 + 1)) [1]
theorem prodF_snoc (ps : List (Nat × Nat)) (p : Nat × Nat) : prodF (ps ++ [p]) = prodF ps * p.1 ^ p.2 := by unfold prodF; rw [List.foldl_append]; rfl
theorem plM_snoc (ps : List (Nat × Nat)) (p : Nat × Nat) : plM (ps ++ [p]) = if p.2 % 2 = 1 then plM ps * p.1 else plM ps := by unfold plM; rw [List.foldl_append]; rfl
theorem plS_snoc (ps : List (Nat × Nat)) (p : Nat × Nat) : plS (ps ++ [p]) = plS ps * p.1 ^ (p.2 / 2) := by unfold plS; rw [List.foldl_append]; rfl
theorem belowF_snoc (n : Nat) (ps : List (Nat × Nat)) (p : Nat × Nat) : belowF n (ps ++ [p]) = belowF n ps / p.1 * (p.1 - 1) := by unfold belowF; rw [List.foldl_append]; rfl
theorem divL_snoc (ps : List (Nat × Nat)) (p : Nat × Nat) : divL (ps ++ [p]) = blk (divL ps) p.1 (p.2 + 1) := by unfold divL; rw [List.foldl_append]; rfl
theorem blk_succ (fs : List Nat) (p t : Nat) : blk fs p (t + 1) = blk fs p t ++ fs.map fun d => d * p ^ t := by
  unfold blk
  rw [List.range_succ, List.flatMap_append]
  simp
theorem prodF_cons (p : Nat × Nat) (ps : List (Nat × Nat)) : prodF (p :: ps) = p.1 ^ p.2 * prodF ps := by
  have key : ∀ (ps : List (Nat × Nat)) (a : Nat), ps.foldl (fun a p => a * p.1 ^ p.2) a = a * prodF ps := by
    intro ps
    induction ps with
    | nil => intro a; exact (Nat.mul_one a).symm
    | cons q ps ih =>
      intro a
      show List.foldl _ (a * q.1 ^ q.2) ps = a * List.foldl _ (1 * q.1 ^ q.2) ps
      rw [ih, ih, Nat.one_mul, Nat.mul_assoc]
  show List.foldl _ (1 * p.1 ^ p.2) ps = _
  rw [key, Nat.one_mul]
theorem fac_prod : ∀ n : Nat, 0 < n → prodF (fac n) = n := by
  intro n
  induction n using Nat.strongRecOn with
  | _ n ih =>
    intro hn
    by_cases h : 2 ≤ n
    · obtain ⟨h1, h2, h3⟩ := minFac_spec h
      obtain ⟨t1, t2, t3⟩ := takeOut_lt h2 hn h1
      obtain ⟨s1, s2, s3⟩ := takeOut_spec h2 n hn
      rw [fac_more h, prodF_cons, ih _ t1 s2, Nat.mul_comm]
      exact s1.symm
    · rw [fac_small h]
      show 1 = n
      omega
theorem fac_pos : ∀ n : Nat, 0 < n → ∀ p ∈ fac n, 2 ≤ p.1 ∧ 1 ≤ p.2 := by
  intro n
  induction n using Nat.strongRecOn with
  | _ n ih =>
    intro hn p hp
    by_cases h : 2 ≤ n
    · obtain ⟨h1, h2, h3⟩ := minFac_spec h
      obtain ⟨t1, t2, t3⟩ := takeOut_lt h2 hn h1
      rw [fac_more h] at hp
      rcases List.mem_cons.mp hp with e | hp
      · subst e
        exact ⟨h2, t2⟩
      · exact ih _ t1 (takeOut_spec h2 n hn).2.1 p hp
    · rw [fac_small h] at hp
      cases hp
/-- the first parts do not come to more than the number -/
theorem prodF_take {n : Nat} (hn : 0 < n) (t : Nat) : prodF ((fac n).take t) ≤ n := by
  have key : ∀ (ps : List (Nat × Nat)), (∀ p ∈ ps, 2 ≤ p.1 ∧ 1 ≤ p.2) → 0 < prodF ps := by
    intro ps
    induction ps with
    | nil => intro _; exact Nat.one_pos
    | cons q ps ih =>
      intro h
      rw [prodF_cons]
      exact Nat.mul_pos (Nat.pow_pos (by have := (h q List.mem_cons_self).1; omega)) (ih fun r hr => h r (List.mem_cons_of_mem _ hr))
  have app : ∀ (as bs : List (Nat × Nat)), prodF (as ++ bs) = prodF as * prodF bs := by
    intro as
    induction as with
    | nil => intro bs; exact (Nat.one_mul _).symm
    | cons q as ih => intro bs; rw [List.cons_append, prodF_cons, prodF_cons, ih, Nat.mul_assoc]
  have h1 := fac_prod n hn
  rw [← List.take_append_drop t (fac n), app] at h1
  have h2 := key ((fac n).drop t) fun p hp => fac_pos n hn p (List.mem_of_mem_drop hp)
  conv => rhs; rw [← h1]
  exact Nat.le_mul_of_pos_right _ h2
theorem plS_le : ∀ ps : List (Nat × Nat), (∀ p ∈ ps, 2 ≤ p.1 ∧ 1 ≤ p.2) → plS ps ≤ prodF ps ∧ plM ps ≤ prodF ps ∧ (divL ps).length ≤ prodF ps ∧ ∀ d ∈ divL ps, d ≤ prodF ps := by
  refine snoc_ind ?_ ?_
  · intro _
    refine ⟨Nat.le_refl _, Nat.le_refl _, Nat.le_refl _, fun d hd => ?_⟩
    have : d = 1 := List.mem_singleton.mp hd
    subst this
    exact Nat.le_refl _
  · intro ps p ih h
    obtain ⟨h1, h2, h3, h4⟩ := ih fun q hq => h q (List.mem_append_left _ hq)
    obtain ⟨p2, k1⟩ := h p (List.mem_append_right _ (List.mem_singleton.mpr rfl))
    rw [prodF_snoc, plS_snoc, plM_snoc, divL_snoc]
    have hpp : 0 < p.1 ^ p.2 := Nat.pow_pos (by omega)
    refine ⟨Nat.mul_le_mul h1 (Nat.pow_le_pow_right (by omega) (by omega)), ?_, ?_, ?_⟩
    · split
      · refine Nat.mul_le_mul h2 ?_
        conv => lhs; rw [← Nat.pow_one p.1]
        exact Nat.pow_le_pow_right (by omega) k1
      · exact Nat.le_trans h2 (Nat.le_mul_of_pos_right _ hpp)
    · have e : ∀ t, (blk (divL ps) p.1 t).length = (divL ps).length * t := fun t => by
        induction t with
        | zero => rfl
        | succ t ih2 => rw [blk_succ, List.length_append, ih2, List.length_map, Nat.mul_succ]
      rw [e]
      refine Nat.mul_le_mul h3 ?_
      have : ∀ k, k + 1 ≤ 2 ^ k := fun k => by
        induction k with
        | zero => decide
        | succ k ih3 => rw [Nat.pow_succ]; omega
      exact Nat.le_trans (this p.2) (Nat.pow_le_pow_left p2 _)
    · intro d hd
      unfold blk at hd
      obtain ⟨j, hj, hd⟩ := List.mem_flatMap.mp hd
      obtain ⟨e, he, rfl⟩ := List.mem_map.mp hd
      rw [List.mem_range] at hj
      exact Nat.mul_le_mul (h4 e he) (Nat.pow_le_pow_right (by omega) (by omega))
theorem belowF_le (n : Nat) : ∀ ps : List (Nat × Nat), (∀ p ∈ ps, 2 ≤ p.1) → belowF n ps ≤ n := by
  refine snoc_ind (fun _ => Nat.le_refl _) ?_
  intro ps p ih h
  have h1 := ih fun q hq => h q (List.mem_append_left _ hq)
  have p2 := h p (List.mem_append_right _ (List.mem_singleton.mpr rfl))
  rw [belowF_snoc]
  have := Nat.div_mul_le_self (belowF n ps) p.1
  have := Nat.mul_le_mul_left (belowF n ps / p.1) (show p.1 - 1 ≤ p.1 by omega)
  omega
theorem fac_le {n : Nat} (hn : 0 < n) : ∀ p ∈ fac n, p.1 ≤ n ∧ p.2 ≤ n := by
  intro p hp
  obtain ⟨i, hi, rfl⟩ := List.mem_iff_getElem.mp hp
  obtain ⟨p2, k1⟩ := fac_pos n hn _ hp
  have h1 := prodF_take hn (i + 1)
  have et : (fac n).take (i + 1) = (fac n).take i ++ [(fac n)[i]] := by rw [List.take_succ, List.getElem?_eq_getElem hi]; rfl
  rw [et, prodF_snoc] at h1
  have key : 0 < prodF ((fac n).take i) := by
    rcases Nat.eq_zero_or_pos (prodF ((fac n).take i)) with z | z
    · have e2 := fac_prod n hn
      have app : ∀ (as bs : List (Nat × Nat)), prodF (as ++ bs) = prodF as * prodF bs := by
        intro as
        induction as with
        | nil => intro bs; exact (Nat.one_mul _).symm
        | cons q as ih => intro bs; rw [List.cons_append, prodF_cons, prodF_cons, ih, Nat.mul_assoc]
      rw [← List.take_append_drop i (fac n), app, z, Nat.zero_mul] at e2
      omega
    · exact z
  have h2 : (fac n)[i].1 ^ (fac n)[i].2 ≤ n := Nat.le_trans (Nat.le_mul_of_pos_left _ key) h1
  have h3 : (fac n)[i].1 ≤ (fac n)[i].1 ^ (fac n)[i].2 := by
    conv => lhs; rw [← Nat.pow_one (fac n)[i].1]
    exact Nat.pow_le_pow_right (by omega) k1
  have h4 : (fac n)[i].2 < (fac n)[i].1 ^ (fac n)[i].2 := Nat.lt_pow_self (by omega)
  omega
local macro_rules | `(tactic| walk_at "d1") => `(tactic| try simp only [dSeq, dSkip, dPass, dRet, dRetN, dDrop, dCond, dAsg, gNm, gTp, dOwn, dOwnL, dPar, dAug, dApp, dExt, dFrz, dFor, dLc, dBreak, dCont, dVar, dC, dOp, dT, dIsi, dNeg, dNot, dTNot, dAnd, dOr, dTAnd, dTOr, dIf, dCh, dNil, dCons, dTup, dLst, dIxO, dB, dCall, dCallW, dItems, dRng1, dRng2, dYes, fnE, startE, startW, startS, dLenO, dLenS, dIxS, dSl, dPt, dNo, wipeE, addD_int, addD_str, addD_tup, addD_lst, subD_int, mulD_int, mulD_tup, mulD_lst, fdivD_int, modD_int, powD_int, shlD_int, shrD_int, andD_int, ltD_int, leD_int, gtD_int, geD_int, eqD_ap, neD_ap, isD_ap, isNotD_ap, isNon_none, isNon_int, isNon_bool, isNon_str, isNon_tup, isNon_lst, isInt_none, isInt_int, isInt_bool, isInt_str, isInt_tup, isInt_lst, isBool_none, isBool_int, isBool_bool, isBool_str, isBool_tup, isBool_lst, isStr_none, isStr_int, isStr_bool, isStr_str, isStr_tup, isStr_lst, isTup_none, isTup_int, isTup_bool, isTup_str, isTup_tup, isTup_lst, isLst_lst, Cnd_true, Cnd_false, Cnd_not, Cnd_dec, asB_bool, forall_const, true_implies, false_implies, implies_true, decide_true, decide_false, Classical.not_not, negD_int, notD_bool, onVal_val, onOwn_own, onDic_dic, onScr_scr, onWv_wv, onInt_int, onTup_tup, onLst_lst, onItems_lst, onItems_tup, frz1_own, frz1_val, frz1_un, ixD_lst, ixD_tup, ixL_int, optD_some, optI_some, absD_int, intD_int, intD_bool, lenD_lst, lenD_tup, lenD_str, tupleD_lst, tupleD_tup, listD_lst, listD_tup, min2D_int, max2D_int, sumD_ints, allD_bls, anyD_bls, slD_lst, slD_tup, slD_str, gNl_nil, gCs_cons, par2_two, seq1_lst, seq1_tup, rng1D_int, rng2D_int, gt_z, gt_s, sp_next_int, set_z, set_s, List.map_cons, List.map_nil, List.length_cons, List.length_nil, List.cons_append, List.nil_append, List.replicate, Nat.reduceAdd, Nat.reduceSub, Nat.zero_add, shaped_int, shaped_bool, shaped_none, shaped_listI, shaped_tupI, shaped_nilL, shaped_nilT, eqv_int, eqv_bool, eqv_str, eqv_none, eqv_list_nil, List.isEmpty_nil, List.isEmpty_cons, Bool.true_eq_false, Bool.false_eq_true, decide_eq_true_eq, and_self, true_and, and_true, not_dec, Bool.not_eq_true', decide_eq_false_iff_not, atI_0, atI_1, atI_2, ite_true, ite_false, if_true, if_false, reduceIte, Bool.not_true, Bool.not_false, not_true_eq_false, not_false_eq_true, List.set_cons_zero, List.set_cons_succ, dPar3, dRev, par3_three, sortedD_ints, revD_tup, two_nat, one_nat, three_nat, dCh3, dOwnC, dPutPar, putPar_two, dZip2, zip2D_lst, zip2D_tup, dPut, isBD_bl, isNotBD_bl, dNewO, dPutO, dSortedO, putKD_int, dPar3O, dParO2, par3O_two, parO2_one, minLD_lst, dKeysW, rdPairs_nil, rdPairs_cons, onPair_ii, revD_lst])
local macro_rules | `(tactic| walk_at "dd") => `(tactic| (walk_at "d1"; repeat (with_reducible (refine then_intro ?_); walk_at "d1")))
theorem neg_one_pow (n : Nat) : (-1 : Int) ^ n = if n % 2 = 0 then 1 else -1 := by
  induction n with
  | zero => rfl
  | succ n ih =>
    rw [Int.pow_succ, ih]
    split <;> split <;> omega
def leg (p : Nat) (a : Int) : Int := if (p : Int) ∣ a then 0 else if (p : Int) ∣ a ^ ((p - 1) / 2) - 1 then 1 else -1
theorem leg_vals (p : Nat) (a : Int) : leg p a = 0 ∨ leg p a = 1 ∨ leg p a = -1 := by
  unfold leg
  split
  · exact .inl rfl
  · split
    · exact .inr (.inl rfl)
    · exact .inr (.inr rfl)
theorem leg_zero {p : Nat} {a : Int} (h : (p : Int) ∣ a) : leg p a = 0 := if_pos h
theorem leg_ne {p : Nat} {a : Int} (h : ¬ (p : Int) ∣ a) : leg p a = 1 ∨ leg p a = -1 := by
  unfold leg
  rw [if_neg h]
  split
  · exact .inl rfl
  · exact .inr rfl
structure OddP (p : Nat) : Prop where
  pr : PrimeI p
  odd : p % 2 = 1
theorem OddP.three {p : Nat} (h : OddP p) : 3 ≤ p := by have := h.pr.1; have := h.odd; omega
section
variable {p : Nat} (hp : OddP p)
include hp
theorem leg_uniq {u v : Int} (hu : u = 0 ∨ u = 1 ∨ u = -1) (hv : v = 0 ∨ v = 1 ∨ v = -1) (d : (p : Int) ∣ u - v) : u = v := by
  have h3 := hp.three
  rcases Int.lt_trichotomy u v with z | z | z
  · have d' : (p : Int) ∣ v - u := by rw [← Int.dvd_neg, Int.neg_sub]; exact d
    have := Int.le_of_dvd (by omega) d'
    omega
  · exact z
  · have := Int.le_of_dvd (by omega) d
    omega
theorem leg_euler (a : Int) : (p : Int) ∣ a ^ ((p - 1) / 2) - leg p a := by
  have h3 := hp.three
  unfold leg
  by_cases z : (p : Int) ∣ a
  · rw [if_pos z, Int.sub_zero, show (p - 1) / 2 = (p - 1) / 2 - 1 + 1 by omega, Int.pow_succ]
    exact Int.dvd_mul_of_dvd_right z
  · rw [if_neg z]
    split
    · assumption
    · rename_i w
      rcases half_one hp.pr hp.odd z with y | y
      · exact absurd y w
      · rwa [show a ^ ((p - 1) / 2) - -1 = a ^ ((p - 1) / 2) + 1 by omega]
theorem leg_is {a u : Int} (hu : u = 0 ∨ u = 1 ∨ u = -1) (h : (p : Int) ∣ a ^ ((p - 1) / 2) - u) : leg p a = u := by
  refine leg_uniq hp (leg_vals p a) hu ?_
  have := Int.dvd_sub h (leg_euler hp a)
  rwa [show a ^ ((p - 1) / 2) - u - (a ^ ((p - 1) / 2) - leg p a) = leg p a - u by omega] at this
theorem leg_cong {a b : Int} (h : (p : Int) ∣ a - b) : leg p a = leg p b := by
  refine leg_is hp (leg_vals p b) ?_
  have := Int.dvd_add (pow_cong h ((p - 1) / 2)) (leg_euler hp b)
  rwa [show a ^ ((p - 1) / 2) - b ^ ((p - 1) / 2) + (b ^ ((p - 1) / 2) - leg p b) = a ^ ((p - 1) / 2) - leg p b by omega] at this
theorem leg_mul (a b : Int) : leg p (a * b) = leg p a * leg p b := by
  refine leg_is hp ?_ ?_
  · rcases leg_vals p a with h | h | h <;> rcases leg_vals p b with k | k | k <;> rw [h, k] <;> decide
  · have h1 := Int.dvd_mul_of_dvd_left (c := b ^ ((p - 1) / 2)) (leg_euler hp a)
    have h2 := Int.dvd_mul_of_dvd_right (b := leg p a) (leg_euler hp b)
    have := Int.dvd_add h1 h2
    rw [Int.mul_pow]
    rwa [show (a ^ ((p - 1) / 2) - leg p a) * b ^ ((p - 1) / 2) + leg p a * (b ^ ((p - 1) / 2) - leg p b) = a ^ ((p - 1) / 2) * b ^ ((p - 1) / 2) - leg p a * leg p b by grind] at this
theorem leg_one : leg p 1 = 1 := by
  refine leg_is hp (.inr (.inl rfl)) ?_
  rw [Int.one_pow]
  exact ⟨0, by omega⟩
theorem leg_sq {a : Int} (ha : ¬ (p : Int) ∣ a) : leg p a = 1 ↔ SqM p a := by
  constructor
  · intro h
    refine euler_only hp.pr hp.odd ha ?_
    have := leg_euler hp a
    rwa [h] at this
  · intro h
    exact leg_is hp (.inr (.inl rfl)) (euler_sq hp.pr hp.odd ha h)
theorem leg_gauss {a : Int} (ha : ¬ (p : Int) ∣ a) : leg p a = (-1) ^ (gM p a).toNat := by
  refine leg_is hp ?_ (gauss hp.pr hp.odd ha)
  rw [neg_one_pow]
  split
  · exact .inr (.inl rfl)
  · exact .inr (.inr rfl)
theorem leg_two : leg p 2 = if p % 8 = 3 ∨ p % 8 = 5 then -1 else 1 := by
  have h3 := hp.three
  have ho := hp.odd
  have hn : ¬ (p : Int) ∣ 2 := hp.pr.small (by omega) (by omega)
  rw [leg_gauss hp hn, neg_one_pow]
  have h := eisen hp.pr hp.odd hn
  have hq : sumL ((upTo ((p - 1) / 2)).map fun x => 2 * x / (p : Int)) = 0 := by
    refine (sumL_same (g := fun _ => 0) fun x hx => ?_).trans (by rw [sumL_const, Int.zero_mul])
    rw [mem_upTo] at hx
    exact Int.ediv_eq_zero_of_lt (by omega) (by omega)
  have hs := sum_upTo ((p - 1) / 2)
  have hm := gM_nonneg p 2
  rw [hq] at h
  generalize sumL (upTo ((p - 1) / 2)) = S at *
  generalize gM p 2 = M at *
  obtain ⟨k, hk⟩ : ∃ k : Nat, (p - 1) / 2 = k := ⟨_, rfl⟩
  rw [hk] at hs
  have hp2 : p = 2 * k + 1 := by omega
  obtain ⟨j, r, hj, hr⟩ : ∃ j r : Nat, k = 4 * j + r ∧ r < 4 := ⟨k / 4, k % 4, by omega, by omega⟩
  subst hj
  have e : ((4 * j + r : Nat) : Int) * (((4 * j + r : Nat) : Int) + 1) = 16 * ((j : Int) * j) + 8 * ((j : Int) * r) + 4 * j + (r : Int) * r + r := by
    rw [Int.natCast_add, Int.natCast_mul]
    show (4 * (j : Int) + r) * (4 * (j : Int) + r + 1) = _
    grind
  rw [e] at hs
  generalize (j : Int) * j = J at *
  have hrr : r = 0 ∨ r = 1 ∨ r = 2 ∨ r = 3 := by omega
  rcases hrr with rfl | rfl | rfl | rfl
  · rw [if_pos (by omega), if_neg (by omega)]
  · rw [if_neg (by omega), if_pos (by omega)]
  · rw [if_neg (by omega), if_pos (by omega)]
  · rw [if_pos (by omega), if_neg (by omega)]
end
theorem leg_qr {p q : Nat} (hp : OddP p) (hq : OddP q) (hn : ¬ (p : Int) ∣ q) (hn' : ¬ (q : Int) ∣ p) : leg p q = (if p % 4 = 3 ∧ q % 4 = 3 then -1 else 1) * leg q p := by
  have p3 := hp.three
  have q3 := hq.three
  have po := hp.odd
  have qo := hq.odd
  rw [leg_gauss hp hn, leg_gauss hq hn', neg_one_pow, neg_one_pow]
  have h1 := eisen hp.pr hp.odd hn
  have h2 := eisen hq.pr hq.odd hn'
  have m1 := gM_nonneg p q
  have m2 := gM_nonneg q p
  have hl := lattice (h := (p - 1) / 2) (k := (q - 1) / 2) fun x y hx hy e => by
    rw [mem_upTo] at hx hy
    have e1 : 2 * (((q - 1) / 2 : Nat) : Int) + 1 = q := by omega
    have e2 : 2 * (((p - 1) / 2 : Nat) : Int) + 1 = p := by omega
    rw [e1, e2] at e
    rcases hp.pr.euclid (show (p : Int) ∣ q * x from ⟨y, e⟩) with d | d
    · exact hn d
    · exact hp.pr.small (by omega) (by omega) d
  have e1 : 2 * (((q - 1) / 2 : Nat) : Int) + 1 = q := by omega
  have e2 : 2 * (((p - 1) / 2 : Nat) : Int) + 1 = p := by omega
  rw [e1, e2] at hl
  generalize sumL ((upTo ((p - 1) / 2)).map fun x => (q : Int) * x / p) = F1 at *
  generalize sumL ((upTo ((q - 1) / 2)).map fun x => (p : Int) * x / q) = F2 at *
  generalize gM p q = M1 at *
  generalize gM q p = M2 at *
  generalize sumL (upTo ((p - 1) / 2)) = S1 at *
  generalize sumL (upTo ((q - 1) / 2)) = S2 at *
  obtain ⟨h, hh⟩ : ∃ h : Nat, (p - 1) / 2 = h := ⟨_, rfl⟩
  obtain ⟨k, hk⟩ : ∃ k : Nat, (q - 1) / 2 = k := ⟨_, rfl⟩
  rw [hh, hk] at hl
  have hp2 : p = 2 * h + 1 := by omega
  have hq2 : q = 2 * k + 1 := by omega
  have s1 : (q : Int) * S1 = 2 * (k * S1) + S1 := by rw [hq2]; rw [Int.natCast_add, Int.natCast_mul]; show (2 * (k : Int) + 1) * S1 = _; grind
  have s2 : (p : Int) * S2 = 2 * (h * S2) + S2 := by rw [hp2]; rw [Int.natCast_add, Int.natCast_mul]; show (2 * (h : Int) + 1) * S2 = _; grind
  rw [s1] at h1
  rw [s2] at h2
  obtain ⟨i, a, hi, ha⟩ : ∃ i a : Nat, h = 2 * i + a ∧ a < 2 := ⟨h / 2, h % 2, by omega, by omega⟩
  obtain ⟨j, b, hj, hb⟩ : ∃ j b : Nat, k = 2 * j + b ∧ b < 2 := ⟨k / 2, k % 2, by omega, by omega⟩
  have e3 : (h : Int) * k = 4 * ((i : Int) * j) + 2 * ((i : Int) * b) + 2 * ((a : Int) * j) + (a : Int) * b := by
    rw [hi, hj, Int.natCast_add, Int.natCast_mul, Int.natCast_add, Int.natCast_mul]
    show (2 * (i : Int) + a) * (2 * (j : Int) + b) = _
    grind
  rw [e3] at hl
  generalize (i : Int) * j = X1 at *
  have ha' : a = 0 ∨ a = 1 := by omega
  have hb' : b = 0 ∨ b = 1 := by omega
  rcases ha' with rfl | rfl <;> rcases hb' with rfl | rfl
  · rw [if_neg (show ¬ (p % 4 = 3 ∧ q % 4 = 3) by omega)]; split <;> split <;> omega
  · rw [if_neg (show ¬ (p % 4 = 3 ∧ q % 4 = 3) by omega)]; split <;> split <;> omega
  · rw [if_neg (show ¬ (p % 4 = 3 ∧ q % 4 = 3) by omega)]; split <;> split <;> omega
  · rw [if_pos (show (p % 4 = 3 ∧ q % 4 = 3) by omega)]; split <;> split <;> omega
def prodN (ps : List Nat) : Nat := ps.foldr (· * ·) 1
theorem prodN_cons (p : Nat) (ps : List Nat) : prodN (p :: ps) = p * prodN ps := rfl
def jacL (ps : List Nat) (a : Int) : Int := ps.foldr (fun p s => leg p a * s) 1
theorem jacL_cons (p : Nat) (ps : List Nat) (a : Int) : jacL (p :: ps) a = leg p a * jacL ps a := rfl
def chi8 (n : Nat) : Int := if n % 8 = 3 ∨ n % 8 = 5 then -1 else 1
def eps (m n : Nat) : Int := if m % 4 = 3 ∧ n % 4 = 3 then -1 else 1
theorem odd8 {n : Nat} (h : n % 2 = 1) : ∃ j, n = 8 * j + 1 ∨ n = 8 * j + 3 ∨ n = 8 * j + 5 ∨ n = 8 * j + 7 := ⟨n / 8, by omega⟩
theorem odd4 {n : Nat} (h : n % 2 = 1) : ∃ j, n = 4 * j + 1 ∨ n = 4 * j + 3 := ⟨n / 4, by omega⟩
theorem mul_odd {m n : Nat} (h : m % 2 = 1) (h' : n % 2 = 1) : (m * n) % 2 = 1 := by rw [Nat.mul_mod, h, h']
theorem chi8_mul {m n : Nat} (h : m % 2 = 1) (h' : n % 2 = 1) : chi8 (m * n) = chi8 m * chi8 n := by
  unfold chi8
  rw [Nat.mul_mod]
  have h1 : m % 8 = 1 ∨ m % 8 = 3 ∨ m % 8 = 5 ∨ m % 8 = 7 := by omega
  have h2 : n % 8 = 1 ∨ n % 8 = 3 ∨ n % 8 = 5 ∨ n % 8 = 7 := by omega
  rcases h1 with e | e | e | e <;> rcases h2 with f | f | f | f <;> rw [e, f] <;> decide
theorem eps_mul {m n q : Nat} (h : m % 2 = 1) (h' : n % 2 = 1) (hq : q % 2 = 1) : eps q (m * n) = eps q m * eps q n ∧ eps (m * n) q = eps m q * eps n q := by
  unfold eps
  rw [Nat.mul_mod]
  have h1 : m % 4 = 1 ∨ m % 4 = 3 := by omega
  have h2 : n % 4 = 1 ∨ n % 4 = 3 := by omega
  have h3 : q % 4 = 1 ∨ q % 4 = 3 := by omega
  rcases h1 with e | e <;> rcases h2 with f | f <;> rcases h3 with g | g <;> rw [e, f, g] <;> decide
def OddPs (ps : List Nat) : Prop := ∀ p ∈ ps, OddP p
theorem OddPs.tail {p : Nat} {ps : List Nat} (h : OddPs (p :: ps)) : OddPs ps := fun q hq => h q (List.mem_cons_of_mem _ hq)
theorem prodN_odd : ∀ {ps : List Nat}, OddPs ps → prodN ps % 2 = 1
  | [], _ => rfl
  | p :: ps, h => mul_odd (h p List.mem_cons_self).odd (prodN_odd h.tail)
theorem jacL_cong {a b : Int} : ∀ {ps : List Nat}, OddPs ps → (prodN ps : Int) ∣ a - b → jacL ps a = jacL ps b
  | [], _, _ => rfl
  | p :: ps, h, d => by
    rw [prodN_cons, Int.natCast_mul] at d
    rw [jacL_cons, jacL_cons, leg_cong (h p List.mem_cons_self) (Int.dvd_trans ⟨_, rfl⟩ d), jacL_cong h.tail (Int.dvd_trans ⟨_, Int.mul_comm _ _⟩ d)]
theorem jacL_mul (a b : Int) : ∀ {ps : List Nat}, OddPs ps → jacL ps (a * b) = jacL ps a * jacL ps b
  | [], _ => rfl
  | p :: ps, h => by
    rw [jacL_cons, jacL_cons, jacL_cons, leg_mul (h p List.mem_cons_self), jacL_mul a b h.tail]
    grind
theorem jacL_one : ∀ {ps : List Nat}, OddPs ps → jacL ps 1 = 1
  | [], _ => rfl
  | p :: ps, h => by
    rw [jacL_cons, leg_one (h p List.mem_cons_self), jacL_one h.tail]
    rfl
theorem jacL_two : ∀ {ps : List Nat}, OddPs ps → jacL ps 2 = chi8 (prodN ps)
  | [], _ => rfl
  | p :: ps, h => by
    rw [jacL_cons, prodN_cons, chi8_mul (h p List.mem_cons_self).odd (prodN_odd h.tail), jacL_two h.tail, leg_two (h p List.mem_cons_self)]
    rfl
theorem PrimeI.of_dvd {p q : Nat} (hp : PrimeI p) (hq : PrimeI q) (h : p ∣ q) : p = q := by
  rcases Nat.lt_trichotomy p q with z | z | z
  · have h1 := hq.2 p z (by have := hp.1; omega)
    have h2 : Nat.gcd p q = p := Nat.gcd_eq_left h
    have := hp.1
    omega
  · exact z
  · have := Nat.le_of_dvd (by have := hq.1; omega) h
    omega
theorem leg_rec {p q : Nat} (hp : OddP p) (hq : OddP q) : leg p q = eps p q * leg q p := by
  by_cases z : p = q
  · subst z
    rw [leg_zero (Int.dvd_refl _), Int.mul_zero]
  · exact leg_qr hp hq (fun d => z (hp.pr.of_dvd hq.pr (Int.natCast_dvd_natCast.mp d))) fun d => z (hq.pr.of_dvd hp.pr (Int.natCast_dvd_natCast.mp d)).symm
theorem leg_jacL {p : Nat} (hp : OddP p) : ∀ {qs : List Nat}, OddPs qs → leg p (prodN qs : Nat) = eps p (prodN qs) * jacL qs p
  | [], _ => by
    show leg p 1 = eps p 1 * 1
    rw [leg_one hp]
    unfold eps
    rw [if_neg (by omega)]
    rfl
  | q :: qs, h => by
    rw [prodN_cons, Int.natCast_mul, leg_mul hp, leg_rec hp (h q List.mem_cons_self), leg_jacL hp h.tail, jacL_cons, (eps_mul (h q List.mem_cons_self).odd (prodN_odd h.tail) hp.odd).1]
    grind
theorem jacL_rec {qs : List Nat} (hq : OddPs qs) : ∀ {ps : List Nat}, OddPs ps → jacL ps (prodN qs : Nat) = eps (prodN ps) (prodN qs) * jacL qs (prodN ps : Nat)
  | [], _ => by
    show (1 : Int) = eps 1 (prodN qs) * jacL qs 1
    rw [jacL_one hq]
    unfold eps
    rw [if_neg (by omega)]
    rfl
  | p :: ps, h => by
    rw [prodN_cons, Int.natCast_mul, jacL_cons, leg_jacL (h p List.mem_cons_self) hq, jacL_rec hq h.tail, jacL_mul _ _ hq, (eps_mul (h p List.mem_cons_self).odd (prodN_odd h.tail) (prodN_odd hq)).2]
    grind
theorem minFac_prime {n : Nat} (h : 2 ≤ n) : PrimeI (minFac n) := by
  obtain ⟨h1, h2, h3⟩ := minFac_spec h
  refine ⟨h2, fun r hr r0 => ?_⟩
  have g1 := Nat.gcd_dvd_left r (minFac n)
  have g2 := Nat.gcd_dvd_right r (minFac n)
  have g3 := Nat.le_of_dvd (by omega) g1
  have g4 : 0 < Nat.gcd r (minFac n) := Nat.gcd_pos_of_pos_left _ (by omega)
  rcases Nat.lt_or_ge (Nat.gcd r (minFac n)) 2 with z | z
  · omega
  · exact absurd (Nat.dvd_trans g2 h1) (h3 _ z (by omega))
theorem exists_primes : ∀ (k n : Nat), n ≤ k → 0 < n → ∃ ps : List Nat, (∀ p ∈ ps, PrimeI p) ∧ prodN ps = n := by
  intro k
  induction k with
  | zero => intro n h h0; omega
  | succ k ih =>
    intro n h h0
    by_cases z : n = 1
    · exact ⟨[], (fun p hp => nomatch hp), z.symm⟩
    · obtain ⟨⟨q, hq⟩, h2, h3⟩ := minFac_spec (n := n) (by omega)
      have q0 : 0 < q := by
        rcases Nat.eq_zero_or_pos q with y | y
        · subst y; rw [Nat.mul_zero] at hq; omega
        · exact y
      have ql : q < n := by
        have := Nat.mul_le_mul_right q h2
        omega
      obtain ⟨ps, h4, h5⟩ := ih q (by omega) q0
      refine ⟨minFac n :: ps, fun p hp => ?_, by rw [prodN_cons, h5, ← hq]⟩
      rcases List.mem_cons.mp hp with rfl | hp
      · exact minFac_prime (by omega)
      · exact h4 p hp
theorem odd_primes {n : Nat} (h : n % 2 = 1) : ∃ ps : List Nat, OddPs ps ∧ prodN ps = n := by
  obtain ⟨ps, h1, h2⟩ := exists_primes n n (Nat.le_refl _) (by omega)
  refine ⟨ps, fun p hp => ⟨h1 p hp, ?_⟩, h2⟩
  have d : ∀ (ps : List Nat), p ∈ ps → p ∣ prodN ps := by
    intro ps
    induction ps with
    | nil => intro h; nomatch h
    | cons q ps ih =>
      intro h
      rw [prodN_cons]
      rcases List.mem_cons.mp h with rfl | h
      · exact Nat.dvd_mul_right _ _
      · exact Nat.dvd_trans (ih h) (Nat.dvd_mul_left _ _)
  obtain ⟨c, hc⟩ := d ps hp
  rw [h2] at hc
  rcases Nat.mod_two_eq_zero_or_one p with z | z
  · rw [hc, Nat.mul_mod, z] at h
    simp at h
  · exact z
theorem twoSign_pow (n : Nat) : ∀ t : Nat, twoSign t n = chi8 n ^ t
  | 0 => by rw [twoSign_zero, Int.pow_zero]
  | t + 1 => by rw [twoSign_succ, twoSign_pow n t, Int.pow_succ, Int.mul_comm]; rfl
theorem swapSign_eps (a n : Nat) : swapSign a n = eps n a := by
  unfold swapSign eps
  by_cases h : a % 4 = 3 ∧ n % 4 = 3
  · rw [if_pos h, if_pos ⟨h.2, h.1⟩]
  · rw [if_neg h, if_neg fun z => h ⟨z.2, z.1⟩]
theorem jacL_pow {ps : List Nat} (h : OddPs ps) (a : Int) : ∀ t : Nat, jacL ps (a * 2 ^ t) = jacL ps a * chi8 (prodN ps) ^ t
  | 0 => by rw [Int.pow_zero, Int.pow_zero, Int.mul_one, Int.mul_one]
  | t + 1 => by
    rw [Int.pow_succ, Int.pow_succ, ← Int.mul_assoc, jacL_mul _ _ h, jacL_pow h a t, jacL_two h, Int.mul_assoc]
/-- the reckoned mark is the product of the marks of the primes -/
theorem jac_is : ∀ (k a : Nat), a ≤ k → ∀ {ps : List Nat}, OddPs ps → jac a (prodN ps) = jacL ps a := by
  intro k
  induction k with
  | zero =>
    intro a ha ps h
    have : a = 0 := by omega
    subst this
    rw [jac_zero]
    cases ps with
    | nil => rfl
    | cons p ps =>
      rw [jacL_cons, leg_zero (show (p : Int) ∣ ((0 : Nat) : Int) from ⟨0, by rw [Int.mul_zero]; rfl⟩), Int.zero_mul, if_neg]
      intro e
      have := (h p List.mem_cons_self).three
      have h1 := prodN_odd h.tail
      rw [prodN_cons] at e
      have := Nat.le_mul_of_pos_right p (show 0 < prodN ps by omega)
      omega
  | succ k ih =>
    intro a ha ps h
    by_cases z : a = 0
    · subst z
      exact ih 0 (Nat.zero_le _) h
    · rw [jac_step z]
      have e := strip_eq a
      have o : (strip a).1 % 2 = 1 := by
        rcases strip_is a with y | y
        · exact absurd (strip_zero.mp y) z
        · exact y
      have le := strip_le a
      generalize (strip a).1 = b at *
      generalize (strip a).2 = t at *
      obtain ⟨qs, h1, h2⟩ := odd_primes o
      subst h2
      have hb0 : 0 < prodN qs := by omega
      have hlt := Nat.mod_lt (prodN ps) hb0
      rw [ih _ (by omega) h1, e, Int.natCast_mul, Int.natCast_pow]
      rw [show ((2 : Nat) : Int) = 2 from rfl, jacL_pow h, jacL_rec h1 h, twoSign_pow, swapSign_eps]
      have : jacL qs ((prodN ps % prodN qs : Nat) : Int) = jacL qs (prodN ps : Nat) := by
        refine jacL_cong h1 ?_
        rw [Int.natCast_emod]
        have := Int.mul_ediv_add_emod (prodN ps : Int) (prodN qs : Int)
        exact ⟨-((prodN ps : Int) / (prodN qs : Int)), by rw [Int.mul_neg]; omega⟩
      rw [this]
      grind
/-- the mark modulo an odd number -/
def markN (n : Nat) (a : Int) : Int := jac (a % (n : Int)).toNat n
theorem markN_is {ps : List Nat} (h : OddPs ps) (a : Int) : markN (prodN ps) a = jacL ps a := by
  have ho := prodN_odd h
  have h0 := Int.emod_nonneg a (show (prodN ps : Int) ≠ 0 by omega)
  unfold markN
  rw [jac_is _ _ (Nat.le_refl _) h]
  refine jacL_cong h ?_
  rw [Int.toNat_of_nonneg h0]
  have := Int.mul_ediv_add_emod a (prodN ps)
  exact ⟨-(a / (prodN ps : Int)), by rw [Int.mul_neg]; omega⟩
theorem OddP.of_min {n : Nat} (h2 : 2 ≤ n) (ho : n % 2 = 1) : OddP (minFac n) := by
  refine ⟨minFac_prime h2, ?_⟩
  obtain ⟨⟨q, hq⟩, _, _⟩ := minFac_spec h2
  rcases Nat.mod_two_eq_zero_or_one (minFac n) with z | z
  · rw [hq, Nat.mul_mod, z, Nat.zero_mul] at ho
    simp at ho
  · exact z
theorem div_odd {n p : Nat} (hd : p ∣ n) (ho : n % 2 = 1) : (n / p) % 2 = 1 := by
  obtain ⟨q, rfl⟩ := hd
  rcases Nat.eq_zero_or_pos p with z | z
  · subst z; rw [Nat.zero_mul] at ho; omega
  · rw [Nat.mul_div_cancel_left q z]
    rcases Nat.mod_two_eq_zero_or_one q with y | y
    · rw [Nat.mul_mod, y, Nat.mul_zero] at ho
      simp at ho
    · exact y
theorem markN_step {n : Nat} (h2 : 2 ≤ n) (ho : n % 2 = 1) (a : Int) : markN n a = leg (minFac n) a * markN (n / minFac n) a := by
  have hp := OddP.of_min h2 ho
  have hd := (minFac_spec h2).1
  obtain ⟨ps, h1, h3⟩ := odd_primes (div_odd hd ho)
  have hps : OddPs (minFac n :: ps) := fun p hp' => by
    rcases List.mem_cons.mp hp' with rfl | hp'
    · exact hp
    · exact h1 p hp'
  have e : prodN (minFac n :: ps) = n := by rw [prodN_cons, h3, Nat.mul_div_cancel' hd]
  rw [← h3, markN_is h1, ← jacL_cons, ← markN_is hps, e]
theorem markN_one (a : Int) : markN 1 a = 1 := markN_is (ps := []) (fun p hp => nomatch hp) a
theorem markN_prime {p : Nat} (hp : OddP p) (a : Int) : markN p a = leg p a := by
  have := markN_is (ps := [p]) (fun q hq => by rw [List.mem_singleton.mp hq]; exact hp) a
  rw [show prodN [p] = p from Nat.mul_one p] at this
  rw [this]
  exact Int.mul_one _
theorem markN_vals {n : Nat} (h : n % 2 = 1) (a : Int) : markN n a = 0 ∨ markN n a = 1 ∨ markN n a = -1 := by
  obtain ⟨ps, h1, rfl⟩ := odd_primes h
  rw [markN_is h1]
  clear h
  induction ps with
  | nil => exact .inr (.inl rfl)
  | cons p ps ih =>
    rw [jacL_cons]
    rcases leg_vals p a with h | h | h <;> rcases ih h1.tail with k | k | k <;> rw [h, k] <;> decide
local macro_rules | `(tactic| walk_at "d1") => `(tactic| try simp only [dSeq, dSkip, dPass, dRet, dRetN, dDrop, dCond, dAsg, gNm, gTp, dOwn, dOwnL, dPar, dAug, dApp, dExt, dFrz, dFor, dLc, dBreak, dCont, dVar, dC, dOp, dT, dIsi, dNeg, dNot, dTNot, dAnd, dOr, dTAnd, dTOr, dIf, dCh, dNil, dCons, dTup, dLst, dIxO, dB, dCall, dCallW, dItems, dRng1, dRng2, dYes, fnE, startE, startW, startS, dLenO, dLenS, dIxS, dSl, dPt, dNo, wipeE, addD_int, addD_str, addD_tup, addD_lst, subD_int, mulD_int, mulD_tup, mulD_lst, fdivD_int, modD_int, powD_int, shlD_int, shrD_int, andD_int, ltD_int, leD_int, gtD_int, geD_int, eqD_ap, neD_ap, isD_ap, isNotD_ap, isNon_none, isNon_int, isNon_bool, isNon_str, isNon_tup, isNon_lst, isInt_none, isInt_int, isInt_bool, isInt_str, isInt_tup, isInt_lst, isBool_none, isBool_int, isBool_bool, isBool_str, isBool_tup, isBool_lst, isStr_none, isStr_int, isStr_bool, isStr_str, isStr_tup, isStr_lst, isTup_none, isTup_int, isTup_bool, isTup_str, isTup_tup, isTup_lst, isLst_lst, Cnd_true, Cnd_false, Cnd_not, Cnd_dec, asB_bool, forall_const, true_implies, false_implies, implies_true, decide_true, decide_false, Classical.not_not, negD_int, notD_bool, onVal_val, onOwn_own, onDic_dic, onScr_scr, onWv_wv, onInt_int, onTup_tup, onLst_lst, onItems_lst, onItems_tup, frz1_own, frz1_val, frz1_un, ixD_lst, ixD_tup, ixL_int, optD_some, optI_some, absD_int, intD_int, intD_bool, lenD_lst, lenD_tup, lenD_str, tupleD_lst, tupleD_tup, listD_lst, listD_tup, min2D_int, max2D_int, sumD_ints, allD_bls, anyD_bls, slD_lst, slD_tup, slD_str, gNl_nil, gCs_cons, par2_two, seq1_lst, seq1_tup, rng1D_int, rng2D_int, gt_z, gt_s, sp_next_int, set_z, set_s, List.map_cons, List.map_nil, List.length_cons, List.length_nil, List.cons_append, List.nil_append, List.replicate, Nat.reduceAdd, Nat.reduceSub, Nat.zero_add, shaped_int, shaped_bool, shaped_none, shaped_listI, shaped_tupI, shaped_nilL, shaped_nilT, eqv_int, eqv_bool, eqv_str, eqv_none, eqv_list_nil, List.isEmpty_nil, List.isEmpty_cons, Bool.true_eq_false, Bool.false_eq_true, decide_eq_true_eq, and_self, true_and, and_true, not_dec, Bool.not_eq_true', decide_eq_false_iff_not, atI_0, atI_1, atI_2, ite_true, ite_false, if_true, if_false, reduceIte, Bool.not_true, Bool.not_false, not_true_eq_false, not_false_eq_true, List.set_cons_zero, List.set_cons_succ, dPar3, dRev, par3_three, sortedD_ints, revD_tup, two_nat, one_nat, three_nat, dCh3, dOwnC, dPutPar, putPar_two, dZip2, zip2D_lst, zip2D_tup, dPut, isBD_bl, isNotBD_bl, dNewO, dPutO, dSortedO, putKD_int, dPar3O, dParO2, par3O_two, parO2_one, minLD_lst, dKeysW, rdPairs_nil, rdPairs_cons, onPair_ii, revD_lst])
local macro_rules | `(tactic| walk_at "dd") => `(tactic| (walk_at "d1"; repeat (with_reducible (refine then_intro ?_); walk_at "d1")))
theorem pow_one_mod {p : Nat} {z : Int} {a : Nat} (h : (p : Int) ∣ z ^ a - 1) (n : Nat) : (p : Int) ∣ z ^ (a * n) - 1 := by
  have := pow_cong h n
  rwa [Int.one_pow, ← Int.pow_mul] at this
theorem pow_gcd {p : Nat} {z : Int} : ∀ (k a b : Nat), a ≤ k → (p : Int) ∣ z ^ a - 1 → (p : Int) ∣ z ^ b - 1 → (p : Int) ∣ z ^ (Nat.gcd a b) - 1 := by
  intro k
  induction k with
  | zero =>
    intro a b ha h1 h2
    have : a = 0 := by omega
    subst this
    rw [Nat.gcd_zero_left]
    exact h2
  | succ k ih =>
    intro a b ha h1 h2
    rcases Nat.eq_zero_or_pos a with z0 | z0
    · subst z0
      rw [Nat.gcd_zero_left]
      exact h2
    · rw [Nat.gcd_rec]
      have hlt := Nat.mod_lt b z0
      refine ih (b % a) a (by omega) ?_ h1
      have e : z ^ b = z ^ (a * (b / a)) * z ^ (b % a) := by rw [← Int.pow_add, Nat.div_add_mod]
      have h3 := Int.dvd_mul_of_dvd_left (c := z ^ (b % a)) (pow_one_mod h1 (b / a))
      rw [e] at h2
      have := Int.dvd_sub h2 h3
      rwa [show z ^ (a * (b / a)) * z ^ (b % a) - 1 - (z ^ (a * (b / a)) - 1) * z ^ (b % a) = z ^ (b % a) - 1 by grind] at this
/-- an element of every order -/
theorem exists_order {p : Nat} (hp : OddP p) : ∀ (k m : Nat), m ≤ k → 0 < m → m ∣ p - 1 → ∃ g : Int, (p : Int) ∣ g ^ m - 1 ∧ ∀ q, PrimeI q → q ∣ m → ¬ (p : Int) ∣ g ^ (m / q) - 1 := by
  have h3 := hp.three
  intro k
  induction k with
  | zero => intro m hm h0; omega
  | succ k ih =>
    intro m hm h0 hd
    by_cases m1 : m = 1
    · subst m1
      refine ⟨1, by rw [Int.one_pow]; exact ⟨0, by omega⟩, fun q hq hq1 => ?_⟩
      have := Nat.le_of_dvd (by decide) hq1
      have := hq.1
      omega
    · have m2 : 2 ≤ m := by omega
      have hqp := minFac_prime m2
      obtain ⟨f1, f2, f3⟩ := minFac_spec m2
      obtain ⟨t1, t2, t3⟩ := takeOut_lt f2 h0 f1
      obtain ⟨s1, s2, s3⟩ := takeOut_spec f2 m h0
      generalize minFac m = q at *
      generalize (takeOut q m).1 = m' at *
      generalize (takeOut q m).2 = j at *
      have hm' : m' ∣ p - 1 := Nat.dvd_trans ⟨q ^ j, s1⟩ hd
      obtain ⟨g', hg1, hg2⟩ := ih m' (by omega) s2 hm'
      obtain ⟨c, hc⟩ := hd
      have c0 : 0 < c := by
        rcases Nat.eq_zero_or_pos c with y | y
        · subst y; rw [Nat.mul_zero] at hc; omega
        · exact y
      -- n / q
      have eqj : q ^ j = q * q ^ (j - 1) := by
        have : q ^ j = q ^ (j - 1 + 1) := by rw [show j - 1 + 1 = j by omega]
        rw [this, Nat.pow_succ, Nat.mul_comm]
      have hn : p - 1 = q * (q ^ (j - 1) * (m' * c)) := by rw [hc, s1, eqj]; simp only [Nat.mul_assoc, Nat.mul_comm, Nat.mul_left_comm]
      have hu0 : 0 < q ^ (j - 1) * (m' * c) := Nat.mul_pos (Nat.pow_pos (by omega)) (Nat.mul_pos s2 c0)
      obtain ⟨x, hx1, hx2⟩ : ∃ x : Int, x ∈ upTo (p - 1) ∧ ¬ (p : Int) ∣ x ^ (q ^ (j - 1) * (m' * c)) - 1 := by
        apply Classical.byContradiction
        intro hne
        have hall : ∀ x ∈ upTo (p - 1), (p : Int) ∣ x ^ (q ^ (j - 1) * (m' * c)) - 1 := fun x hx => Classical.byContradiction fun y => hne ⟨x, hx, y⟩
        have := few_roots hp.pr hu0 hall (by
          have hn := upTo_nodup (p - 1)
          unfold List.Nodup at hn
          refine List.Pairwise.imp_of_mem (fun {x y} hx hy hne d => ?_) hn
          rw [mem_upTo] at hx hy
          exact hne (hp.pr.diff (by omega) (by omega) (by omega) (by omega) d))
        rw [upTo_len, hn] at this
        have h4 := Nat.mul_le_mul_right (q ^ (j - 1) * (m' * c)) f2
        omega
      rw [mem_upTo] at hx1
      have hx0 := hp.pr.small (a := x) (by omega) (by omega)
      -- y = x ^ (n / q^j)
      let y := x ^ (m' * c)
      have y1 : (p : Int) ∣ y ^ (q ^ j) - 1 := by
        have := fermat hp.pr hx0
        rw [hn] at this
        show (p : Int) ∣ (x ^ (m' * c)) ^ (q ^ j) - 1
        rw [← Int.pow_mul, eqj, show m' * c * (q * q ^ (j - 1)) = q * (q ^ (j - 1) * (m' * c)) by simp only [Nat.mul_assoc, Nat.mul_comm, Nat.mul_left_comm]]
        exact this
      have y2 : ¬ (p : Int) ∣ y ^ (q ^ (j - 1)) - 1 := by
        show ¬ (p : Int) ∣ (x ^ (m' * c)) ^ (q ^ (j - 1)) - 1
        rw [← Int.pow_mul, Nat.mul_comm (m' * c)]
        exact hx2
      have mulone : ∀ {a b : Int}, (p : Int) ∣ a - 1 → (p : Int) ∣ b - 1 → (p : Int) ∣ a * b - 1 := fun {a b} ha hb => by
        have := Int.dvd_add (Int.dvd_mul_of_dvd_left (c := b) ha) hb
        rwa [show (a - 1) * b + (b - 1) = a * b - 1 by grind] at this
      have unmul : ∀ {a b : Int}, (p : Int) ∣ a - 1 → (p : Int) ∣ a * b - 1 → (p : Int) ∣ b - 1 := fun {a b} ha hab => by
        have := Int.dvd_sub hab (Int.dvd_mul_of_dvd_left (c := b) ha)
        rwa [show a * b - 1 - (a - 1) * b = b - 1 by grind] at this
      refine ⟨g' * y, ?_, fun r hr hrm => ?_⟩
      · rw [s1, Int.mul_pow]
        refine mulone (pow_one_mod hg1 _) ?_
        rw [Nat.mul_comm]
        exact pow_one_mod y1 _
      · intro hbad
        by_cases e : r = q
        · subst e
          have em : m / r = m' * r ^ (j - 1) := by
            rw [s1, eqj, show m' * (r * r ^ (j - 1)) = r * (m' * r ^ (j - 1)) by simp only [Nat.mul_assoc, Nat.mul_comm, Nat.mul_left_comm], Nat.mul_div_cancel_left _ (by omega)]
          rw [em, Int.mul_pow] at hbad
          have h1 := unmul (pow_one_mod hg1 (r ^ (j - 1))) hbad
          rw [Nat.mul_comm, Int.pow_mul] at h1
          have h2 : (p : Int) ∣ (y ^ (r ^ (j - 1))) ^ r - 1 := by
            rw [← Int.pow_mul, Nat.mul_comm, ← eqj]
            exact y1
          have hg : Nat.gcd m' r = 1 := by
            have := hr.gcd (r := (m' : Int)) (fun d => s3 (Nat.mod_eq_zero_of_dvd (Int.natCast_dvd_natCast.mp d)))
            exact this
          have := pow_gcd m' m' r (Nat.le_refl _) h1 h2
          rw [hg, Int.pow_succ, Int.pow_zero, Int.one_mul] at this
          exact y2 this
        · have hrm' : r ∣ m' := by
            have hc : Nat.Coprime r (q ^ j) := by
              refine Nat.Coprime.pow_right j ?_
              have := hqp.gcd (r := (r : Int)) (fun d => e (hqp.of_dvd hr (Int.natCast_dvd_natCast.mp d)).symm)
              exact this
            rw [s1] at hrm
            exact hc.dvd_of_dvd_mul_right hrm
          obtain ⟨m'', hm''⟩ := hrm'
          have r0 : 0 < r := by have := hr.1; omega
          have em' : m' / r = m'' := by rw [hm'', Nat.mul_div_cancel_left _ r0]
          have em : m / r = m'' * q ^ j := by
            rw [s1, hm'', Nat.mul_assoc, Nat.mul_div_cancel_left _ r0]
          rw [em, Int.mul_pow] at hbad
          have hy : (p : Int) ∣ y ^ (m'' * q ^ j) - 1 := by rw [Nat.mul_comm]; exact pow_one_mod y1 _
          rw [Int.mul_comm] at hbad
          have h1 := unmul hy hbad
          rw [Int.pow_mul] at h1
          have h2 : (p : Int) ∣ (g' ^ m'') ^ r - 1 := by
            rw [← Int.pow_mul, Nat.mul_comm, ← hm'']
            exact hg1
          have hg : Nat.gcd (q ^ j) r = 1 := by
            have : Nat.Coprime r (q ^ j) := by
              refine Nat.Coprime.pow_right j ?_
              have := hqp.gcd (r := (r : Int)) (fun d => e (hqp.of_dvd hr (Int.natCast_dvd_natCast.mp d)).symm)
              exact this
            rw [Nat.gcd_comm]
            exact this
          have := pow_gcd (q ^ j) (q ^ j) r (Nat.le_refl _) h1 h2
          rw [hg, Int.pow_succ, Int.pow_zero, Int.one_mul] at this
          have h4 := hg2 r hr ⟨m'', hm''⟩
          rw [em'] at h4
          exact h4 this
/-- a maker of all -/
def Maker (p : Nat) (g : Int) : Prop := ∀ q, PrimeI q → q ∣ p - 1 → ¬ (p : Int) ∣ g ^ ((p - 1) / q) - 1
theorem exists_maker {p : Nat} (hp : OddP p) : ∃ g : Nat, 2 ≤ g ∧ g < p ∧ Maker p g := by
  have h3 := hp.three
  obtain ⟨g, h1, h2⟩ := exists_order hp (p - 1) (p - 1) (Nat.le_refl _) (by omega) (Nat.dvd_refl _)
  have g0 := Int.emod_nonneg g (show (p : Int) ≠ 0 by omega)
  have g1 := Int.emod_lt_of_pos g (show (0 : Int) < p by omega)
  have hmk : Maker p (g % p) := fun q hq hd d => h2 q hq hd (by
    have hc := pow_cong (show (p : Int) ∣ g - g % p by
      have := Int.mul_ediv_add_emod g p
      exact ⟨g / p, by omega⟩) ((p - 1) / q)
    have := Int.dvd_add hc d
    rwa [show g ^ ((p - 1) / q) - (g % ↑p) ^ ((p - 1) / q) + ((g % ↑p) ^ ((p - 1) / q) - 1) = g ^ ((p - 1) / q) - 1 by omega] at this)
  have hq := minFac_prime (n := p - 1) (by omega)
  have hqd := (minFac_spec (n := p - 1) (by omega)).1
  have hz : g % p ≠ 0 := fun z => by
    have h5 : (p : Int) ∣ g := Int.dvd_of_emod_eq_zero z
    have h6 : (p : Int) ∣ g ^ (p - 1) := by
      rw [show p - 1 = p - 2 + 1 by omega, Int.pow_succ]
      exact Int.dvd_mul_of_dvd_right h5
    have := Int.dvd_sub h6 h1
    rw [show g ^ (p - 1) - (g ^ (p - 1) - 1) = 1 by omega] at this
    have := Int.le_of_dvd (by decide) this
    omega
  have ho : g % p ≠ 1 := fun z => by
    refine hmk _ hq hqd ?_
    rw [z, Int.one_pow]
    exact ⟨0, by omega⟩
  exact ⟨(g % p).toNat, by omega, by omega, by rw [Int.toNat_of_nonneg g0]; exact hmk⟩
theorem fac_prime : ∀ (k n : Nat), n ≤ k → 0 < n → ∀ p ∈ fac n, PrimeI p.1 ∧ p.1 ∣ n := by
  intro k
  induction k with
  | zero => intro n h h0; omega
  | succ k ih =>
    intro n h h0 p hp
    by_cases n2 : 2 ≤ n
    · rw [fac_more n2] at hp
      obtain ⟨f1, f2, f3⟩ := minFac_spec n2
      obtain ⟨t1, t2, t3⟩ := takeOut_lt f2 h0 f1
      obtain ⟨s1, s2, s3⟩ := takeOut_spec f2 n h0
      rcases List.mem_cons.mp hp with rfl | hp
      · exact ⟨minFac_prime n2, f1⟩
      · obtain ⟨a, b⟩ := ih _ (by omega) s2 p hp
        exact ⟨a, dvd_takeOut f2 h0 b⟩
    · rw [fac_small n2] at hp
      nomatch hp
theorem fac_asc : ∀ (k n : Nat), n ≤ k → 0 < n → (fac n).Pairwise (fun x y => x.1 < y.1) := by
  intro k
  induction k with
  | zero => intro n h h0; omega
  | succ k ih =>
    intro n h h0
    by_cases n2 : 2 ≤ n
    · rw [fac_more n2]
      obtain ⟨f1, f2, f3⟩ := minFac_spec n2
      obtain ⟨t1, t2, t3⟩ := takeOut_lt f2 h0 f1
      obtain ⟨s1, s2, s3⟩ := takeOut_spec f2 n h0
      refine List.pairwise_cons.mpr ⟨fun y hy => ?_, ih _ (by omega) s2⟩
      obtain ⟨a, b⟩ := fac_prime _ _ (Nat.le_refl _) s2 y hy
      have hd := dvd_takeOut f2 h0 b
      show minFac n < y.1
      rcases Nat.lt_trichotomy (minFac n) y.1 with z | z | z
      · exact z
      · rw [← z] at b
        exact absurd (Nat.mod_eq_zero_of_dvd b) s3
      · exact absurd hd (f3 _ a.1 z)
    · rw [fac_small n2]
      exact .nil
/-- what is left without some numbers -/
def leftN (n : Nat) (qs : List Nat) : Nat := qs.foldl (fun l q => (takeOut q l).1) n
theorem fac_left : ∀ (k n : Nat), n ≤ k → 0 < n → leftN n ((fac n).map (·.1)) = 1 := by
  intro k
  induction k with
  | zero => intro n h h0; omega
  | succ k ih =>
    intro n h h0
    by_cases n2 : 2 ≤ n
    · rw [fac_more n2]
      obtain ⟨f1, f2, f3⟩ := minFac_spec n2
      obtain ⟨t1, t2, t3⟩ := takeOut_lt f2 h0 f1
      obtain ⟨s1, s2, s3⟩ := takeOut_spec f2 n h0
      exact ih (takeOut (minFac n) n).1 (by omega) s2
    · rw [fac_small n2]
      show n = 1
      omega
theorem emod_dvd2 (a m : Int) : m ∣ a - a % m := by
  have := Int.mul_ediv_add_emod a m
  exact ⟨a / m, by omega⟩
theorem prime_two : PrimeI 2 := by
  refine ⟨Nat.le_refl _, fun r hr h0 => ?_⟩
  have : r = 1 := by omega
  subst this
  rfl
theorem PrimeI.two_or {q : Nat} (h : PrimeI q) : q = 2 ∨ OddP q := by
  rcases Nat.mod_two_eq_zero_or_one q with z | z
  · exact .inl (prime_two.of_dvd h (Nat.dvd_of_mod_eq_zero z)).symm
  · exact .inr ⟨h, z⟩
/-- a prime that divides a prime less one is at most its half -/
theorem half_prime {n q k : Nat} (ho : OddP n) (hq : PrimeI q) (hd : q ∣ n - 1) (hn : n ≤ 2 ^ (k + 1)) : q ≤ 2 ^ k := by
  have h3 := ho.three
  have hodd := ho.odd
  have e : 2 ^ (k + 1) = 2 ^ k * 2 := Nat.pow_succ 2 k
  rcases hq.two_or with z | z
  · subst z
    omega
  · obtain ⟨c, hc⟩ := hd
    have hqo := z.odd
    have c2 : 2 ≤ c := by
      rcases Nat.lt_or_ge c 2 with y | y
      · have : c = 0 ∨ c = 1 := by omega
        rcases this with rfl | rfl <;> omega
      · exact y
    have := Nat.mul_le_mul_left q c2
    omega
local macro_rules | `(tactic| walk_at "d1") => `(tactic| try simp only [dSeq, dSkip, dPass, dRet, dRetN, dDrop, dCond, dAsg, gNm, gTp, dOwn, dOwnL, dPar, dAug, dApp, dExt, dFrz, dFor, dLc, dBreak, dCont, dVar, dC, dOp, dT, dIsi, dNeg, dNot, dTNot, dAnd, dOr, dTAnd, dTOr, dIf, dCh, dNil, dCons, dTup, dLst, dIxO, dB, dCall, dCallW, dItems, dRng1, dRng2, dYes, fnE, startE, startW, startS, dLenO, dLenS, dIxS, dSl, dPt, dNo, wipeE, addD_int, addD_str, addD_tup, addD_lst, subD_int, mulD_int, mulD_tup, mulD_lst, fdivD_int, modD_int, powD_int, shlD_int, shrD_int, andD_int, ltD_int, leD_int, gtD_int, geD_int, eqD_ap, neD_ap, isD_ap, isNotD_ap, isNon_none, isNon_int, isNon_bool, isNon_str, isNon_tup, isNon_lst, isInt_none, isInt_int, isInt_bool, isInt_str, isInt_tup, isInt_lst, isBool_none, isBool_int, isBool_bool, isBool_str, isBool_tup, isBool_lst, isStr_none, isStr_int, isStr_bool, isStr_str, isStr_tup, isStr_lst, isTup_none, isTup_int, isTup_bool, isTup_str, isTup_tup, isTup_lst, isLst_lst, Cnd_true, Cnd_false, Cnd_not, Cnd_dec, asB_bool, forall_const, true_implies, false_implies, implies_true, decide_true, decide_false, Classical.not_not, negD_int, notD_bool, onVal_val, onOwn_own, onDic_dic, onScr_scr, onWv_wv, onInt_int, onTup_tup, onLst_lst, onItems_lst, onItems_tup, frz1_own, frz1_val, frz1_un, ixD_lst, ixD_tup, ixL_int, optD_some, optI_some, absD_int, intD_int, intD_bool, lenD_lst, lenD_tup, lenD_str, tupleD_lst, tupleD_tup, listD_lst, listD_tup, min2D_int, max2D_int, sumD_ints, allD_bls, anyD_bls, slD_lst, slD_tup, slD_str, gNl_nil, gCs_cons, par2_two, seq1_lst, seq1_tup, rng1D_int, rng2D_int, gt_z, gt_s, sp_next_int, set_z, set_s, List.map_cons, List.map_nil, List.length_cons, List.length_nil, List.cons_append, List.nil_append, List.replicate, Nat.reduceAdd, Nat.reduceSub, Nat.zero_add, shaped_int, shaped_bool, shaped_none, shaped_listI, shaped_tupI, shaped_nilL, shaped_nilT, eqv_int, eqv_bool, eqv_str, eqv_none, eqv_list_nil, List.isEmpty_nil, List.isEmpty_cons, Bool.true_eq_false, Bool.false_eq_true, decide_eq_true_eq, and_self, true_and, and_true, not_dec, Bool.not_eq_true', decide_eq_false_iff_not, atI_0, atI_1, atI_2, ite_true, ite_false, if_true, if_false, reduceIte, Bool.not_true, Bool.not_false, not_true_eq_false, not_false_eq_true, List.set_cons_zero, List.set_cons_succ, dPar3, dRev, par3_three, sortedD_ints, revD_tup, two_nat, one_nat, three_nat, dCh3, dOwnC, dPutPar, putPar_two, dZip2, zip2D_lst, zip2D_tup, dPut, isBD_bl, isNotBD_bl, dNewO, dPutO, dSortedO, putKD_int, dPar3O, dParO2, par3O_two, parO2_one, minLD_lst, dKeysW, rdPairs_nil, rdPairs_cons, onPair_ii, revD_lst])
local macro_rules | `(tactic| walk_at "dd") => `(tactic| (walk_at "d1"; repeat (with_reducible (refine then_intro ?_); walk_at "d1")))
/-- some number is no square -/
theorem exists_nonres {p : Nat} (hp : OddP p) : ∃ z : Nat, 2 ≤ z ∧ z < p ∧ leg p z = -1 := by
  have h3 := hp.three
  apply Classical.byContradiction
  intro hne
  have hall : ∀ x ∈ upTo (p - 1), (p : Int) ∣ x ^ ((p - 1) / 2) - 1 := fun x hx => by
    rw [mem_upTo] at hx
    have hx0 := hp.pr.small (a := x) (by omega) (by omega)
    have he := leg_euler hp x
    rcases leg_ne hx0 with q | q
    · rw [q] at he; exact he
    · exfalso
      by_cases x1 : x = 1
      · subst x1
        rw [leg_one hp] at q
        omega
      · exact hne ⟨x.toNat, by omega, by omega, by rw [Int.toNat_of_nonneg (by omega)]; exact q⟩
  have := few_roots hp.pr (n := (p - 1) / 2) (by omega) hall (by
    have hn := upTo_nodup (p - 1)
    unfold List.Nodup at hn
    refine List.Pairwise.imp_of_mem (fun {x y} hx hy hne d => ?_) hn
    rw [mem_upTo] at hx hy
    exact hne (hp.pr.diff (by omega) (by omega) (by omega) (by omega) d))
  rw [upTo_len] at this
  omega
theorem sq_pow (x : Int) (j : Nat) : x ^ (2 ^ (j + 1)) = x ^ (2 ^ j) * x ^ (2 ^ j) := by
  rw [← Int.pow_add]
  congr 1
  rw [Nat.pow_succ]
  omega
theorem pow_sq (x : Int) (j : Nat) : (x * x) ^ (2 ^ j) = x ^ (2 ^ (j + 1)) := by rw [Int.mul_pow, sq_pow]
structure ToI (p : Nat) (a : Int) (M : Nat) (c r t : Int) : Prop where
  m1 : 1 ≤ M
  hc : (p : Int) ∣ c ^ (2 ^ (M - 1)) + 1
  ht : (p : Int) ∣ t ^ (2 ^ (M - 1)) - 1
  hr : (p : Int) ∣ r * r - a * t
  c0 : 0 ≤ c
  c1 : c < p
  r0 : 0 ≤ r
  r1 : r < p
  t0 : 0 ≤ t
  t1 : t < p
theorem modc (a m : Int) : m ∣ a % m - a := by
  have := Int.mul_ediv_add_emod a m
  exact ⟨-(a / m), by rw [Int.mul_neg]; omega⟩
theorem dvd_tr {m a b c : Int} (h1 : m ∣ a - b) (h2 : m ∣ b - c) : m ∣ a - c := by
  have := Int.dvd_add h1 h2
  rwa [show a - b + (b - c) = a - c by omega] at this
theorem dvd_sy {m a b : Int} (h : m ∣ a - b) : m ∣ b - a := by rw [← Int.dvd_neg, Int.neg_sub]; exact h
theorem ToI.start {p : Nat} (hp : OddP p) {a : Int} (ha : leg p a = 1) {z : Int} (hz : leg p z = -1) {o M : Nat} (e : p - 1 = o * 2 ^ M) (ho : o % 2 = 1) :
    ToI p a M (z ^ o % p) (a ^ ((o + 1) / 2) % p) (a ^ o % p) := by
  have h3 := hp.three
  have hpo := hp.odd
  have m1 : 1 ≤ M := by
    rcases Nat.eq_zero_or_pos M with y | y
    · subst y
      rw [Nat.pow_zero, Nat.mul_one] at e
      omega
    · exact y
  have hp0 : (0 : Int) < p := by omega
  have hh : (p - 1) / 2 = o * 2 ^ (M - 1) := by
    have : 2 ^ M = 2 ^ (M - 1) * 2 := by rw [← Nat.pow_succ]; congr 1; omega
    rw [e, this, ← Nat.mul_assoc, Nat.mul_div_cancel _ (by decide)]
  have key : ∀ x : Int, (p : Int) ∣ (x ^ o % p) ^ (2 ^ (M - 1)) - leg p x := fun x => by
    have h1 := pow_cong (modc (x ^ o) p) (2 ^ (M - 1))
    rw [← Int.pow_mul, ← hh] at h1
    exact dvd_tr h1 (leg_euler hp x)
  have k1 := key z
  have k2 := key a
  rw [hz] at k1
  rw [ha] at k2
  refine ⟨m1, ?_, k2, ?_, Int.emod_nonneg _ (by omega), Int.emod_lt_of_pos _ hp0, Int.emod_nonneg _ (by omega), Int.emod_lt_of_pos _ hp0, Int.emod_nonneg _ (by omega), Int.emod_lt_of_pos _ hp0⟩
  · rwa [Int.sub_neg] at k1
  · have h1 := modc (a ^ ((o + 1) / 2)) p
    have h2 := modc (a ^ o) p
    have e1 : a ^ ((o + 1) / 2) * a ^ ((o + 1) / 2) = a * a ^ o := by
      rw [← Int.pow_add, show (o + 1) / 2 + (o + 1) / 2 = o + 1 by omega, Int.pow_succ, Int.mul_comm]
    generalize a ^ ((o + 1) / 2) % (p : Int) = r at *
    generalize a ^ ((o + 1) / 2) = R at *
    generalize a ^ o % (p : Int) = t at *
    generalize a ^ o = T at *
    have h3 := Int.dvd_mul_of_dvd_left (c := r + R) h1
    have h4 := Int.dvd_mul_of_dvd_right (b := a) h2
    have := Int.dvd_sub h3 h4
    rwa [show (r - R) * (r + R) - a * (t - T) = r * r - a * t by grind] at this
/-- one turn: many is the least with t^(2^many) = 1 -/
theorem ToI.step {p : Nat} (hp : OddP p) {a : Int} {M : Nat} {c r t b : Int} (h : ToI p a M c r t) {n : Nat} (n1 : 1 ≤ n) (nM : n < M) (hn : (p : Int) ∣ t ^ (2 ^ n) - 1) (hl : ¬ (p : Int) ∣ t ^ (2 ^ (n - 1)) - 1)
    (hb : (p : Int) ∣ b - c ^ (2 ^ (M - n - 1))) : ToI p a n (b * b % p) (r * b % p) (t * b * b % p) := by
  obtain ⟨m1, hc, ht, hr, c0, c1, r0, r1, t0, t1⟩ := h
  have hp0 : (0 : Int) < p := by omega
  -- b^(2^n) = -1
  have hbn : (p : Int) ∣ b ^ (2 ^ n) + 1 := by
    have h1 := pow_cong hb (2 ^ n)
    rw [← Int.pow_mul, ← Nat.pow_add, show M - n - 1 + n = M - 1 by omega] at h1
    have := Int.dvd_add h1 hc
    rwa [show b ^ (2 ^ n) - c ^ (2 ^ (M - 1)) + (c ^ (2 ^ (M - 1)) + 1) = b ^ (2 ^ n) + 1 by omega] at this
  have hbb : (p : Int) ∣ (b * b) ^ (2 ^ (n - 1)) + 1 := by
    rw [pow_sq, show n - 1 + 1 = n by omega]
    exact hbn
  have htn : (p : Int) ∣ t ^ (2 ^ (n - 1)) + 1 := by
    have e : t ^ (2 ^ n) - 1 = (t ^ (2 ^ (n - 1)) - 1) * (t ^ (2 ^ (n - 1)) + 1) := by
      have := sq_pow t (n - 1)
      rw [show n - 1 + 1 = n by omega] at this
      rw [this]
      generalize t ^ 2 ^ (n - 1) = x
      grind
    rw [e] at hn
    rcases hp.pr.euclid hn with d | d
    · exact absurd d hl
    · exact d
  refine ⟨n1, ?_, ?_, ?_, Int.emod_nonneg _ (by omega), Int.emod_lt_of_pos _ hp0, Int.emod_nonneg _ (by omega), Int.emod_lt_of_pos _ hp0, Int.emod_nonneg _ (by omega), Int.emod_lt_of_pos _ hp0⟩
  · have h1 := pow_cong (modc (b * b) p) (2 ^ (n - 1))
    have := Int.dvd_add h1 hbb
    rwa [show (b * b % (p : Int)) ^ (2 ^ (n - 1)) - (b * b) ^ (2 ^ (n - 1)) + ((b * b) ^ (2 ^ (n - 1)) + 1) = (b * b % (p : Int)) ^ (2 ^ (n - 1)) + 1 by omega] at this
  · have h1 := pow_cong (modc (t * b * b) p) (2 ^ (n - 1))
    refine dvd_tr h1 ?_
    rw [Int.mul_assoc, Int.mul_pow]
    generalize (b * b) ^ 2 ^ (n - 1) = B at *
    generalize t ^ 2 ^ (n - 1) = T at *
    have h2 := Int.dvd_mul_of_dvd_right (b := T) hbb
    have := Int.dvd_sub h2 htn
    rwa [show T * (B + 1) - (T + 1) = T * B - 1 by grind] at this
  · have h1 := modc (r * b) p
    have h2 := modc (t * b * b) p
    generalize r * b % (p : Int) = x at *
    generalize t * b * b % (p : Int) = y at *
    have h3 := Int.dvd_mul_of_dvd_left (c := x + r * b) h1
    have h4 := Int.dvd_mul_of_dvd_right (b := a) h2
    have h5 := Int.dvd_mul_of_dvd_left (c := b * b) hr
    have := Int.dvd_add (Int.dvd_sub h3 h4) h5
    rwa [show (x - r * b) * (x + r * b) - a * (y - t * b * b) + (r * r - a * t) * (b * b) = x * x - a * y by grind] at this
theorem ToI.fin {p : Nat} {a : Int} {M : Nat} {c r : Int} (h : ToI p a M c r 1) : (p : Int) ∣ r * r - a := by
  have := h.hr
  rwa [Int.mul_one] at this
theorem ToI.tne {p : Nat} (hp : OddP p) {a : Int} {M : Nat} {c r t : Int} (h : ToI p a M c r t) : t ≠ 0 := fun z => by
  have h3 := hp.three
  subst z
  have := h.ht
  rw [Int.zero_pow (by have : 0 < 2 ^ (M - 1) := Nat.pow_pos (by decide)
                       omega), Int.zero_sub, Int.dvd_neg] at this
  have := Int.le_of_dvd (by decide) this
  omega
local macro_rules | `(tactic| walk_at "d1") => `(tactic| try simp only [dSeq, dSkip, dPass, dRet, dRetN, dDrop, dCond, dAsg, gNm, gTp, dOwn, dOwnL, dPar, dAug, dApp, dExt, dFrz, dFor, dLc, dBreak, dCont, dVar, dC, dOp, dT, dIsi, dNeg, dNot, dTNot, dAnd, dOr, dTAnd, dTOr, dIf, dCh, dNil, dCons, dTup, dLst, dIxO, dB, dCall, dCallW, dItems, dRng1, dRng2, dYes, fnE, startE, startW, startS, dLenO, dLenS, dIxS, dSl, dPt, dNo, wipeE, addD_int, addD_str, addD_tup, addD_lst, subD_int, mulD_int, mulD_tup, mulD_lst, fdivD_int, modD_int, powD_int, shlD_int, shrD_int, andD_int, ltD_int, leD_int, gtD_int, geD_int, eqD_ap, neD_ap, isD_ap, isNotD_ap, isNon_none, isNon_int, isNon_bool, isNon_str, isNon_tup, isNon_lst, isInt_none, isInt_int, isInt_bool, isInt_str, isInt_tup, isInt_lst, isBool_none, isBool_int, isBool_bool, isBool_str, isBool_tup, isBool_lst, isStr_none, isStr_int, isStr_bool, isStr_str, isStr_tup, isStr_lst, isTup_none, isTup_int, isTup_bool, isTup_str, isTup_tup, isTup_lst, isLst_lst, Cnd_true, Cnd_false, Cnd_not, Cnd_dec, asB_bool, forall_const, true_implies, false_implies, implies_true, decide_true, decide_false, Classical.not_not, negD_int, notD_bool, onVal_val, onOwn_own, onDic_dic, onScr_scr, onWv_wv, onInt_int, onTup_tup, onLst_lst, onItems_lst, onItems_tup, frz1_own, frz1_val, frz1_un, ixD_lst, ixD_tup, ixL_int, optD_some, optI_some, absD_int, intD_int, intD_bool, lenD_lst, lenD_tup, lenD_str, tupleD_lst, tupleD_tup, listD_lst, listD_tup, min2D_int, max2D_int, sumD_ints, allD_bls, anyD_bls, slD_lst, slD_tup, slD_str, gNl_nil, gCs_cons, par2_two, seq1_lst, seq1_tup, rng1D_int, rng2D_int, gt_z, gt_s, sp_next_int, set_z, set_s, List.map_cons, List.map_nil, List.length_cons, List.length_nil, List.cons_append, List.nil_append, List.replicate, Nat.reduceAdd, Nat.reduceSub, Nat.zero_add, shaped_int, shaped_bool, shaped_none, shaped_listI, shaped_tupI, shaped_nilL, shaped_nilT, eqv_int, eqv_bool, eqv_str, eqv_none, eqv_list_nil, List.isEmpty_nil, List.isEmpty_cons, Bool.true_eq_false, Bool.false_eq_true, decide_eq_true_eq, and_self, true_and, and_true, not_dec, Bool.not_eq_true', decide_eq_false_iff_not, atI_0, atI_1, atI_2, ite_true, ite_false, if_true, if_false, reduceIte, Bool.not_true, Bool.not_false, not_true_eq_false, not_false_eq_true, List.set_cons_zero, List.set_cons_succ, dPar3, dRev, par3_three, sortedD_ints, revD_tup, two_nat, one_nat, three_nat, dCh3, dOwnC, dPutPar, putPar_two, dZip2, zip2D_lst, zip2D_tup, dPut, isBD_bl, isNotBD_bl, dNewO, dPutO, dSortedO, putKD_int, dPar3O, dParO2, par3O_two, parO2_one, minLD_lst, dKeysW, rdPairs_nil, rdPairs_cons, onPair_ii, revD_lst])
local macro_rules | `(tactic| walk_at "dd") => `(tactic| (walk_at "d1"; repeat (with_reducible (refine then_intro ?_); walk_at "d1")))
theorem tkI_pow {p : Nat} (hp : 2 ≤ p) {r : Int} (hr : ¬ (p : Int) ∣ r) : ∀ v : Nat, tkI p (r * (p : Int) ^ v) = (r, v) := by
  have r0 : r ≠ 0 := fun z => hr (by rw [z]; exact ⟨0, by omega⟩)
  intro v
  induction v with
  | zero => rw [Int.pow_zero, Int.mul_one]; exact tkI_none hr
  | succ v ih =>
    have e : r * (p : Int) ^ (v + 1) = (p : Int) * (r * (p : Int) ^ v) := by rw [Int.pow_succ]; grind
    have hv : 0 < (p : Int) ^ v := Int.pow_pos (by omega)
    have h0 : r * (p : Int) ^ v ≠ 0 := Int.mul_ne_zero r0 (by omega)
    rw [e, tkI_mul hp h0, ih]
/-- a square at a prime -/
def SqAt (p : Nat) (a : Int) : Prop := a ≠ 0 ∧ (tkI p a).2 % 2 = 0 ∧ (if p = 2 then (tkI p a).1 % 8 = 1 else leg p (tkI p a).1 = 1)
/-- a prime, any -/
def AnyP (p : Nat) : Prop := p = 2 ∨ OddP p
theorem AnyP.pr {p : Nat} (h : AnyP p) : PrimeI p := by
  rcases h with rfl | h
  · refine ⟨Nat.le_refl _, fun r hr h0 => ?_⟩
    have : r = 1 := by omega
    subst this
    rfl
  · exact h.pr
theorem OddP.ne {p : Nat} (h : OddP p) : p ≠ 2 := by have := h.odd; omega
theorem sq_mod8 {u : Int} (h : ¬ (2 : Int) ∣ u) : u * u % 8 = 1 := by
  have h1 : u % 2 = 1 := by
    rcases (show u % 2 = 0 ∨ u % 2 = 1 by omega) with z | z
    · exact absurd (Int.dvd_of_emod_eq_zero z) h
    · exact z
  have h2 : u % 8 = 1 ∨ u % 8 = 3 ∨ u % 8 = 5 ∨ u % 8 = 7 := by omega
  rw [Int.mul_emod]
  rcases h2 with e | e | e | e <;> rw [e] <;> decide
theorem leg_sq_self {p : Nat} (hp : OddP p) {u : Int} (h : ¬ (p : Int) ∣ u) : leg p (u * u) = 1 := by
  rw [leg_mul hp]
  rcases leg_ne h with e | e <;> rw [e] <;> decide
/-- s s + m j, m a power of p that is three above the size -/
theorem sqAt_near {p : Nat} (hp : AnyP p) {s j : Int} (hs : s ≠ 0) : SqAt p (s * s + (p : Int) ^ (2 * (tkI p s).2 + 3) * j) := by
  have hpr := hp.pr
  obtain ⟨s1, s2, s3⟩ := tkI_spec hpr.1 hs
  generalize (tkI p s).1 = u at *
  generalize (tkI p s).2 = v at *
  have e : s * s + (p : Int) ^ (2 * v + 3) * j = (u * u + (p : Int) ^ 3 * j) * (p : Int) ^ (2 * v) := by
    rw [s1, Int.pow_add, show 2 * v = v + v by omega, Int.pow_add]
    generalize (p : Int) ^ v = P
    grind
  have d3 : (p : Int) ∣ (p : Int) ^ 3 * j := by
    rw [Int.pow_succ]
    exact Int.dvd_mul_of_dvd_left (Int.dvd_mul_left _ _)
  have hnd : ¬ (p : Int) ∣ u * u + (p : Int) ^ 3 * j := fun d => by
    have := Int.dvd_sub d d3
    rw [show u * u + (p : Int) ^ 3 * j - (p : Int) ^ 3 * j = u * u by omega] at this
    rcases hpr.euclid this with z | z <;> exact s3 z
  rw [e]
  refine ⟨?_, ?_, ?_⟩
  · refine Int.mul_ne_zero (fun z => hnd (by rw [z]; exact ⟨0, by omega⟩)) ?_
    have := hpr.1
    have : 0 < (p : Int) ^ (2 * v) := Int.pow_pos (by omega)
    omega
  · rw [tkI_pow hpr.1 hnd]
    show 2 * v % 2 = 0
    omega
  · rw [tkI_pow hpr.1 hnd]
    show if p = 2 then (u * u + (p : Int) ^ 3 * j) % 8 = 1 else leg p (u * u + (p : Int) ^ 3 * j) = 1
    split
    · rename_i p2
      subst p2
      have := sq_mod8 s3
      have e8 : ((2 : Nat) : Int) ^ 3 * j = 8 * j := rfl
      rw [e8]
      omega
    · rename_i p2
      have ho : OddP p := hp.resolve_left p2
      rw [leg_cong ho (b := u * u) (by rw [show u * u + (p : Int) ^ 3 * j - u * u = (p : Int) ^ 3 * j by omega]; exact d3)]
      exact leg_sq_self ho s3
theorem sqAt_sq {p : Nat} (hp : AnyP p) {s : Int} (hs : s ≠ 0) : SqAt p (s * s) := by
  have := sqAt_near hp (j := 0) hs
  rwa [Int.mul_zero, Int.add_zero] at this
/-- 2-adic step -/
theorem two_step {a x : Int} {n : Nat} (hn : 3 ≤ n) (hx : x % 2 = 1) (h : (2 : Int) ^ n ∣ x * x - a) :
    ((2 : Int) ^ (n + 1) ∣ x * x - a) ∨ ((2 : Int) ^ (n + 1) ∣ (x + 2 ^ (n - 1)) * (x + 2 ^ (n - 1)) - a ∧ (x + 2 ^ (n - 1)) % 2 = 1) := by
  obtain ⟨q, hq⟩ := h
  rcases (show q % 2 = 0 ∨ q % 2 = 1 by omega) with z | z
  · left
    refine ⟨q / 2, ?_⟩
    rw [hq, Int.pow_succ, Int.mul_assoc]
    congr 1
    omega
  · right
    obtain ⟨m, rfl⟩ : ∃ m, n = m + 3 := ⟨n - 3, by omega⟩
    have e1 : (2 : Int) ^ (m + 3 - 1) = 2 ^ m * 4 := by rw [show m + 3 - 1 = m + 2 by omega, Int.pow_add]; rfl
    have e2 : (2 : Int) ^ (m + 3) = 2 ^ m * 8 := by rw [Int.pow_add]; rfl
    have e3 : (2 : Int) ^ (m + 3 + 1) = 2 ^ m * 16 := by rw [show m + 3 + 1 = m + 4 by omega, Int.pow_add]; rfl
    rw [e1, e3]
    rw [e2] at hq
    refine ⟨⟨(q + x) / 2 + 2 ^ m, ?_⟩, ?_⟩
    · have hh : q + x = 2 * ((q + x) / 2) := by omega
      generalize (q + x) / 2 = w at *
      generalize (2 : Int) ^ m = P at *
      have : (x + P * 4) * (x + P * 4) - a = (x * x - a) + 8 * (P * x) + 16 * (P * P) := by grind
      rw [this, hq, show P * 8 * q + 8 * (P * x) + 16 * (P * P) = 8 * (P * (q + x)) + 16 * (P * P) by grind, hh]
      grind
    · generalize (2 : Int) ^ m = P at *
      omega
theorem dvd_cancel_pow {p : Nat} (hp : 2 ≤ p) {x : Int} {m k : Nat} (hk : m < k) (h : (p : Int) ^ k ∣ x * (p : Int) ^ m) : (p : Int) ∣ x := by
  obtain ⟨q, hq⟩ := h
  have e : (p : Int) ^ k = (p : Int) ^ m * ((p : Int) * (p : Int) ^ (k - m - 1)) := by
    rw [← Int.pow_succ', ← Int.pow_add]
    congr 1
    omega
  rw [e] at hq
  have pm : (0 : Int) < (p : Int) ^ m := Int.pow_pos (by omega)
  refine ⟨(p : Int) ^ (k - m - 1) * q, ?_⟩
  have : (p : Int) ^ m * x = (p : Int) ^ m * ((p : Int) * ((p : Int) ^ (k - m - 1) * q)) := by grind
  exact Int.eq_of_mul_eq_mul_left (by omega) this
theorem size_sq {p : Nat} (hp : PrimeI p) {y a : Int} {k : Nat} (ha : a ≠ 0) (hk : (tkI p a).2 < k) (h : (p : Int) ^ k ∣ y * y - a) : y ≠ 0 ∧ 2 * (tkI p y).2 = (tkI p a).2 := by
  obtain ⟨a1, a2, a3⟩ := tkI_spec hp.1 ha
  generalize (tkI p a).1 = r at *
  generalize (tkI p a).2 = v at *
  have y0 : y ≠ 0 := fun z => by
    subst z
    have h2 : (p : Int) ^ k ∣ r * (p : Int) ^ v := by
      rw [← a1, ← Int.dvd_neg]
      rwa [Int.mul_zero, Int.zero_sub] at h
    exact a3 (dvd_cancel_pow hp.1 hk h2)
  refine ⟨y0, ?_⟩
  obtain ⟨y1, y2, y3⟩ := tkI_spec hp.1 y0
  generalize (tkI p y).1 = u at *
  generalize (tkI p y).2 = w at *
  have ey : y * y = u * u * (p : Int) ^ (2 * w) := by
    rw [y1, show 2 * w = w + w by omega, Int.pow_add]
    generalize (p : Int) ^ w = W
    grind
  rcases Nat.lt_trichotomy (2 * w) v with z | z | z
  · exfalso
    have e : y * y - a = (u * u - r * (p : Int) ^ (v - 2 * w)) * (p : Int) ^ (2 * w) := by
      have : (p : Int) ^ v = (p : Int) ^ (v - 2 * w) * (p : Int) ^ (2 * w) := by rw [← Int.pow_add]; congr 1; omega
      rw [ey, a1, this]
      grind
    rw [e] at h
    have d := dvd_cancel_pow hp.1 (by omega) h
    have d2 : (p : Int) ∣ r * (p : Int) ^ (v - 2 * w) := by
      rw [show v - 2 * w = v - 2 * w - 1 + 1 by omega, Int.pow_succ]
      exact Int.dvd_mul_of_dvd_right (Int.dvd_mul_left _ _)
    have := Int.dvd_add d d2
    rw [show u * u - r * (p : Int) ^ (v - 2 * w) + r * (p : Int) ^ (v - 2 * w) = u * u by omega] at this
    rcases hp.euclid this with q | q <;> exact y3 q
  · exact z
  · exfalso
    have e : y * y - a = (u * u * (p : Int) ^ (2 * w - v) - r) * (p : Int) ^ v := by
      have : (p : Int) ^ (2 * w) = (p : Int) ^ (2 * w - v) * (p : Int) ^ v := by rw [← Int.pow_add]; congr 1; omega
      rw [ey, a1, this]
      grind
    rw [e] at h
    have d := dvd_cancel_pow hp.1 hk h
    have d2 : (p : Int) ∣ u * u * (p : Int) ^ (2 * w - v) := by
      rw [show 2 * w - v = 2 * w - v - 1 + 1 by omega, Int.pow_succ]
      exact Int.dvd_mul_of_dvd_right (Int.dvd_mul_left _ _)
    have := Int.dvd_sub d2 d
    rw [show u * u * (p : Int) ^ (2 * w - v) - (u * u * (p : Int) ^ (2 * w - v) - r) = r by omega] at this
    exact a3 this
local macro_rules | `(tactic| walk_at "d1") => `(tactic| try simp only [dSeq, dSkip, dPass, dRet, dRetN, dDrop, dCond, dAsg, gNm, gTp, dOwn, dOwnL, dPar, dAug, dApp, dExt, dFrz, dFor, dLc, dBreak, dCont, dVar, dC, dOp, dT, dIsi, dNeg, dNot, dTNot, dAnd, dOr, dTAnd, dTOr, dIf, dCh, dNil, dCons, dTup, dLst, dIxO, dB, dCall, dCallW, dItems, dRng1, dRng2, dYes, fnE, startE, startW, startS, dLenO, dLenS, dIxS, dSl, dPt, dNo, wipeE, addD_int, addD_str, addD_tup, addD_lst, subD_int, mulD_int, mulD_tup, mulD_lst, fdivD_int, modD_int, powD_int, shlD_int, shrD_int, andD_int, ltD_int, leD_int, gtD_int, geD_int, eqD_ap, neD_ap, isD_ap, isNotD_ap, isNon_none, isNon_int, isNon_bool, isNon_str, isNon_tup, isNon_lst, isInt_none, isInt_int, isInt_bool, isInt_str, isInt_tup, isInt_lst, isBool_none, isBool_int, isBool_bool, isBool_str, isBool_tup, isBool_lst, isStr_none, isStr_int, isStr_bool, isStr_str, isStr_tup, isStr_lst, isTup_none, isTup_int, isTup_bool, isTup_str, isTup_tup, isTup_lst, isLst_lst, Cnd_true, Cnd_false, Cnd_not, Cnd_dec, asB_bool, forall_const, true_implies, false_implies, implies_true, decide_true, decide_false, Classical.not_not, negD_int, notD_bool, onVal_val, onOwn_own, onDic_dic, onScr_scr, onWv_wv, onInt_int, onTup_tup, onLst_lst, onItems_lst, onItems_tup, frz1_own, frz1_val, frz1_un, ixD_lst, ixD_tup, ixL_int, optD_some, optI_some, absD_int, intD_int, intD_bool, lenD_lst, lenD_tup, lenD_str, tupleD_lst, tupleD_tup, listD_lst, listD_tup, min2D_int, max2D_int, sumD_ints, allD_bls, anyD_bls, slD_lst, slD_tup, slD_str, gNl_nil, gCs_cons, par2_two, seq1_lst, seq1_tup, rng1D_int, rng2D_int, gt_z, gt_s, sp_next_int, set_z, set_s, List.map_cons, List.map_nil, List.length_cons, List.length_nil, List.cons_append, List.nil_append, List.replicate, Nat.reduceAdd, Nat.reduceSub, Nat.zero_add, shaped_int, shaped_bool, shaped_none, shaped_listI, shaped_tupI, shaped_nilL, shaped_nilT, eqv_int, eqv_bool, eqv_str, eqv_none, eqv_list_nil, List.isEmpty_nil, List.isEmpty_cons, Bool.true_eq_false, Bool.false_eq_true, decide_eq_true_eq, and_self, true_and, and_true, not_dec, Bool.not_eq_true', decide_eq_false_iff_not, atI_0, atI_1, atI_2, ite_true, ite_false, if_true, if_false, reduceIte, Bool.not_true, Bool.not_false, not_true_eq_false, not_false_eq_true, List.set_cons_zero, List.set_cons_succ, dPar3, dRev, par3_three, sortedD_ints, revD_tup, two_nat, one_nat, three_nat, dCh3, dOwnC, dPutPar, putPar_two, dZip2, zip2D_lst, zip2D_tup, dPut, isBD_bl, isNotBD_bl, dNewO, dPutO, dSortedO, putKD_int, dPar3O, dParO2, par3O_two, parO2_one, minLD_lst, dKeysW, rdPairs_nil, rdPairs_cons, onPair_ii, revD_lst])
local macro_rules | `(tactic| walk_at "dd") => `(tactic| (walk_at "d1"; repeat (with_reducible (refine then_intro ?_); walk_at "d1")))
theorem gcd_lcm_dvd {M m n z : Nat} (hM : 0 < M) (h1 : Nat.gcd M n ∣ z) (h2 : Nat.gcd m n ∣ z) : Nat.gcd (Nat.lcm M m) n ∣ z := by
  have hg : 0 < Nat.gcd M m := Nat.gcd_pos_of_pos_left m hM
  obtain ⟨a, ha⟩ := Nat.gcd_dvd_left M m
  obtain ⟨b, hb⟩ := Nat.gcd_dvd_right M m
  have hab : Nat.gcd a b = 1 := by
    have e : Nat.gcd M m * Nat.gcd a b = Nat.gcd M m * 1 := by
      rw [← Nat.gcd_mul_left, ← ha, ← hb, Nat.mul_one]
    exact Nat.eq_of_mul_eq_mul_left hg e
  have hl : Nat.lcm M m = M * b := by
    have e := Nat.gcd_mul_lcm M m
    have e2 : Nat.gcd M m * Nat.lcm M m = Nat.gcd M m * (M * b) := by
      rw [e]
      conv => lhs; rw [hb]
      rw [← Nat.mul_assoc, ← Nat.mul_assoc, Nat.mul_comm M]
    exact Nat.eq_of_mul_eq_mul_left hg e2
  have hl2 : Nat.lcm M m = m * a := by
    rw [hl]
    conv => lhs; rw [ha]
    conv => rhs; rw [hb]
    rw [Nat.mul_assoc, Nat.mul_assoc, Nat.mul_comm a]
  have d1 : Nat.gcd (Nat.lcm M m) n ∣ z * b := by
    refine Nat.dvd_trans ?_ (Nat.mul_dvd_mul_right h1 b)
    rw [← Nat.gcd_mul_right]
    exact Nat.dvd_gcd (by rw [← hl]; exact Nat.gcd_dvd_left _ _) (Nat.dvd_trans (Nat.gcd_dvd_right _ _) (Nat.dvd_mul_right _ _))
  have d2 : Nat.gcd (Nat.lcm M m) n ∣ z * a := by
    refine Nat.dvd_trans ?_ (Nat.mul_dvd_mul_right h2 a)
    rw [← Nat.gcd_mul_right]
    exact Nat.dvd_gcd (by rw [← hl2]; exact Nat.gcd_dvd_left _ _) (Nat.dvd_trans (Nat.gcd_dvd_right _ _) (Nat.dvd_mul_right _ _))
  have := Nat.dvd_gcd d2 d1
  rw [Nat.gcd_mul_left, hab, Nat.mul_one] at this
  exact this
theorem gcd_lcm_dvdI {M m n z : Int} (hM : M ≠ 0) (h1 : ((Int.gcd M n : Nat) : Int) ∣ z) (h2 : ((Int.gcd m n : Nat) : Int) ∣ z) : ((Int.gcd ((Int.lcm M m : Nat) : Int) n : Nat) : Int) ∣ z := by
  rw [← Int.natAbs_dvd_natAbs, Int.natAbs_natCast] at h1 h2 ⊢
  exact gcd_lcm_dvd (M := M.natAbs) (m := m.natAbs) (n := n.natAbs) (by omega) h1 h2
def rowD (p : Int × Int) : PyData := .tuple [.int p.1, .int p.2]
def okPair (p q : Int × Int) : Prop := ((Int.gcd p.2 q.2 : Nat) : Int) ∣ p.1 - q.1
instance (p q : Int × Int) : Decidable (okPair p q) := inferInstanceAs (Decidable (_ ∣ _))
def lcmAll (ps : List (Int × Int)) : Nat := ps.foldl (fun M p => Int.lcm M p.2) 1
theorem lcmAll_snoc (ps : List (Int × Int)) (p : Int × Int) : lcmAll (ps ++ [p]) = Int.lcm (lcmAll ps) p.2 := by
  unfold lcmAll
  rw [List.foldl_append]
  rfl
/-- all that were walked can be with q, and x is with all of these: then x is with q -/
theorem okAll : ∀ (ps : List (Int × Int)) (q : Int × Int) (x : Int), (∀ p ∈ ps, 0 < p.2) → (∀ p ∈ ps, okPair p q) → (∀ p ∈ ps, p.2 ∣ x - p.1) → 0 < lcmAll ps ∧ ((Int.gcd (lcmAll ps) q.2 : Nat) : Int) ∣ x - q.1 := by
  refine snoc_ind ?_ ?_
  · intro q x _ _ _
    refine ⟨Nat.one_pos, ?_⟩
    show ((Int.gcd 1 q.2 : Nat) : Int) ∣ _
    rw [Int.gcd_one_left]
    exact Int.one_dvd _
  · intro ps p ih q x h0 h1 h2
    have hp : p ∈ ps ++ [p] := List.mem_append_right _ (List.mem_singleton.mpr rfl)
    obtain ⟨i0, i1⟩ := ih q x (fun r hr => h0 r (List.mem_append_left _ hr)) (fun r hr => h1 r (List.mem_append_left _ hr)) (fun r hr => h2 r (List.mem_append_left _ hr))
    have p0 := h0 p hp
    rw [lcmAll_snoc]
    refine ⟨Nat.pos_of_ne_zero fun z => ?_, gcd_lcm_dvdI (by omega) i1 ?_⟩
    · rcases Int.lcm_eq_zero_iff.mp z with z | z <;> omega
    · have e : x - q.1 = (x - p.1) + (p.1 - q.1) := by omega
      rw [e]
      exact Int.dvd_add (Int.dvd_trans (Int.gcd_dvd_left _ _) (h2 p hp)) (h1 p hp)
local macro_rules | `(tactic| walk_at "d1") => `(tactic| try simp only [dSeq, dSkip, dPass, dRet, dRetN, dDrop, dCond, dAsg, gNm, gTp, dOwn, dOwnL, dPar, dAug, dApp, dExt, dFrz, dFor, dLc, dBreak, dCont, dVar, dC, dOp, dT, dIsi, dNeg, dNot, dTNot, dAnd, dOr, dTAnd, dTOr, dIf, dCh, dNil, dCons, dTup, dLst, dIxO, dB, dCall, dCallW, dItems, dRng1, dRng2, dYes, fnE, startE, startW, startS, dLenO, dLenS, dIxS, dSl, dPt, dNo, wipeE, addD_int, addD_str, addD_tup, addD_lst, subD_int, mulD_int, mulD_tup, mulD_lst, fdivD_int, modD_int, powD_int, shlD_int, shrD_int, andD_int, ltD_int, leD_int, gtD_int, geD_int, eqD_ap, neD_ap, isD_ap, isNotD_ap, isNon_none, isNon_int, isNon_bool, isNon_str, isNon_tup, isNon_lst, isInt_none, isInt_int, isInt_bool, isInt_str, isInt_tup, isInt_lst, isBool_none, isBool_int, isBool_bool, isBool_str, isBool_tup, isBool_lst, isStr_none, isStr_int, isStr_bool, isStr_str, isStr_tup, isStr_lst, isTup_none, isTup_int, isTup_bool, isTup_str, isTup_tup, isTup_lst, isLst_lst, Cnd_true, Cnd_false, Cnd_not, Cnd_dec, asB_bool, forall_const, true_implies, false_implies, implies_true, decide_true, decide_false, Classical.not_not, negD_int, notD_bool, onVal_val, onOwn_own, onDic_dic, onScr_scr, onWv_wv, onInt_int, onTup_tup, onLst_lst, onItems_lst, onItems_tup, frz1_own, frz1_val, frz1_un, ixD_lst, ixD_tup, ixL_int, optD_some, optI_some, absD_int, intD_int, intD_bool, lenD_lst, lenD_tup, lenD_str, tupleD_lst, tupleD_tup, listD_lst, listD_tup, min2D_int, max2D_int, sumD_ints, allD_bls, anyD_bls, slD_lst, slD_tup, slD_str, gNl_nil, gCs_cons, par2_two, seq1_lst, seq1_tup, rng1D_int, rng2D_int, gt_z, gt_s, sp_next_int, set_z, set_s, List.map_cons, List.map_nil, List.length_cons, List.length_nil, List.cons_append, List.nil_append, List.replicate, Nat.reduceAdd, Nat.reduceSub, Nat.zero_add, shaped_int, shaped_bool, shaped_none, shaped_listI, shaped_tupI, shaped_nilL, shaped_nilT, eqv_int, eqv_bool, eqv_str, eqv_none, eqv_list_nil, List.isEmpty_nil, List.isEmpty_cons, Bool.true_eq_false, Bool.false_eq_true, decide_eq_true_eq, and_self, true_and, and_true, not_dec, Bool.not_eq_true', decide_eq_false_iff_not, atI_0, atI_1, atI_2, ite_true, ite_false, if_true, if_false, reduceIte, Bool.not_true, Bool.not_false, not_true_eq_false, not_false_eq_true, List.set_cons_zero, List.set_cons_succ, dPar3, dRev, par3_three, sortedD_ints, revD_tup, two_nat, one_nat, three_nat, dCh3, dOwnC, dPutPar, putPar_two, dZip2, zip2D_lst, zip2D_tup, dPut, isBD_bl, isNotBD_bl, dNewO, dPutO, dSortedO, putKD_int, dPar3O, dParO2, par3O_two, parO2_one, minLD_lst, dKeysW, rdPairs_nil, rdPairs_cons, onPair_ii, revD_lst])
local macro_rules | `(tactic| walk_at "dd") => `(tactic| (walk_at "d1"; repeat (with_reducible (refine then_intro ?_); walk_at "d1")))
def SolM (n a : Int) : Prop := ∃ x : Int, n ∣ x * x - a
theorem SolM.of_dvd {m n a : Int} (h : SolM n a) (d : m ∣ n) : SolM m a := by
  obtain ⟨x, hx⟩ := h
  exact ⟨x, Int.dvd_trans d hx⟩
theorem SolM.cong {n a b : Int} (h : SolM n a) (d : n ∣ a - b) : SolM n b := by
  obtain ⟨x, hx⟩ := h
  exact ⟨x, dvd_tr hx d⟩
theorem lift_odd {p : Nat} (hp : OddP p) {a y : Int} {n : Nat} (hn : 1 ≤ n) (hy : ¬ (p : Int) ∣ y) (h : (p : Int) ^ n ∣ y * y - a) : ∃ z, (p : Int) ^ (n + 1) ∣ z * z - a ∧ (p : Int) ∣ z - y := by
  have h3 := hp.three
  obtain ⟨q, hq⟩ := h
  have h2y : ¬ (p : Int) ∣ 2 * y := fun d => by
    rcases hp.pr.euclid d with d | d
    · exact hp.pr.small (by omega) (by omega) d
    · exact hy d
  have hf := fermat hp.pr h2y
  rw [show p - 1 = p - 2 + 1 by omega, Int.pow_succ] at hf
  generalize (2 * y) ^ (p - 2) = u at hf
  obtain ⟨w, hw⟩ := hf
  obtain ⟨m, rfl⟩ : ∃ m, n = m + 1 := ⟨n - 1, by omega⟩
  refine ⟨y + -(q * u) * (p : Int) ^ (m + 1), ⟨-(q * w) + (q * u) * (q * u) * (p : Int) ^ m, ?_⟩, ?_⟩
  · have e1 : (p : Int) ^ (m + 1 + 1) = (p : Int) ^ m * p * p := by rw [Int.pow_succ, Int.pow_succ]
    have e2 : (p : Int) ^ (m + 1) = (p : Int) ^ m * p := Int.pow_succ ..
    rw [e2] at hq
    rw [e1, e2]
    generalize (p : Int) ^ m = P at *
    have : (y + -(q * u) * (P * p)) * (y + -(q * u) * (P * p)) - a = (y * y - a) - q * (u * (2 * y)) * (P * p) + (q * u) * (q * u) * (P * p) * (P * p) := by grind
    have hu : u * (2 * y) = 1 + p * w := by omega
    rw [this, hq, hu]
    grind
  · rw [show y + -(q * u) * (p : Int) ^ (m + 1) - y = -(q * u) * (p : Int) ^ (m + 1) by omega, Int.pow_succ]
    exact Int.dvd_mul_of_dvd_right (Int.dvd_mul_left _ _)
theorem sol_pow_odd {p : Nat} (hp : OddP p) {a : Int} (ha : ¬ (p : Int) ∣ a) {j : Nat} (hj : 1 ≤ j) : SolM ((p : Int) ^ j) a ↔ leg p a = 1 := by
  rw [leg_sq hp ha]
  constructor
  · intro h
    exact h.of_dvd ⟨(p : Int) ^ (j - 1), by rw [← Int.pow_succ']; congr 1; omega⟩
  · intro h
    induction j with
    | zero => omega
    | succ j ih =>
      rcases Nat.eq_zero_or_pos j with z | z
      · subst z
        obtain ⟨x, hx⟩ := h
        refine ⟨x, ?_⟩
        rwa [show (p : Int) ^ (0 + 1) = p by rw [Int.pow_succ, Int.pow_zero, Int.one_mul]]
      · obtain ⟨y, hy⟩ := ih z
        have hyn : ¬ (p : Int) ∣ y := fun d => ha (by
          have h1 : (p : Int) ∣ y * y - a := Int.dvd_trans ⟨(p : Int) ^ (j - 1), by rw [← Int.pow_succ']; congr 1; omega⟩ hy
          have := Int.dvd_sub (Int.dvd_mul_of_dvd_left (c := y) d) h1
          rwa [show y * y - (y * y - a) = a by omega] at this)
        obtain ⟨z', hz, _⟩ := lift_odd hp z hyn hy
        exact ⟨z', hz⟩
theorem sol_pow_two {a : Int} (ha : ¬ (2 : Int) ∣ a) {j : Nat} (hj : 1 ≤ j) : SolM ((2 : Int) ^ j) a ↔ a % 2 ^ (min 3 j) = 1 := by
  have ho : a % 2 = 1 := by
    rcases (show a % 2 = 0 ∨ a % 2 = 1 by omega) with z | z
    · exact absurd (Int.dvd_of_emod_eq_zero z) ha
    · exact z
  have odd_of : ∀ {x : Int}, (2 : Int) ∣ x * x - a → ¬ (2 : Int) ∣ x := fun {x} h d => ha (by
    have := Int.dvd_sub (Int.dvd_mul_of_dvd_left (c := x) d) h
    rwa [show x * x - (x * x - a) = a by omega] at this)
  rcases (show j = 1 ∨ j = 2 ∨ 3 ≤ j by omega) with rfl | rfl | h3
  · exact ⟨fun _ => ho, fun _ => ⟨1, by show (2 : Int) ∣ 1 * 1 - a; exact ⟨(1 - a) / 2, by omega⟩⟩⟩
  · show SolM 4 a ↔ a % 4 = 1
    constructor
    · rintro ⟨x, hx⟩
      have h1 := sq_mod8 (odd_of (Int.dvd_trans ⟨2, rfl⟩ hx))
      omega
    · intro h
      exact ⟨1, ⟨(1 - a) / 4, by omega⟩⟩
  · rw [show min 3 j = 3 by omega]
    show _ ↔ a % 8 = 1
    constructor
    · rintro ⟨x, hx⟩
      have h8 : (8 : Int) ∣ x * x - a := Int.dvd_trans ⟨2 ^ (j - 3), by rw [show (8 : Int) = 2 ^ 3 from rfl, ← Int.pow_add]; congr 1; omega⟩ hx
      have h1 := sq_mod8 (odd_of (Int.dvd_trans ⟨4, rfl⟩ h8))
      omega
    · intro h
      have key : ∀ n : Nat, 3 ≤ n → ∃ x : Int, x % 2 = 1 ∧ (2 : Int) ^ n ∣ x * x - a := by
        intro n
        induction n with
        | zero => intro h; omega
        | succ n ih =>
          intro hn
          rcases Nat.lt_or_ge n 3 with z | z
          · have : n = 2 := by omega
            subst this
            exact ⟨1, by decide, by show (8 : Int) ∣ 1 * 1 - a; exact ⟨(1 - a) / 8, by omega⟩⟩
          · obtain ⟨x, xo, hx⟩ := ih z
            rcases two_step z xo hx with y | ⟨y, yo⟩
            · exact ⟨x, xo, y⟩
            · exact ⟨_, yo, y⟩
      obtain ⟨x, _, hx⟩ := key j h3
      exact ⟨x, hx⟩
theorem sol_strip {p : Nat} (hp : PrimeI p) {r : Int} (hr : ¬ (p : Int) ∣ r) {v k : Nat} (hv : v < k) : SolM ((p : Int) ^ k) (r * (p : Int) ^ v) ↔ v % 2 = 0 ∧ SolM ((p : Int) ^ (k - v)) r := by
  have r0 : r ≠ 0 := fun z => hr (by rw [z]; exact ⟨0, by omega⟩)
  have hp2 := hp.1
  have pv : (0 : Int) < (p : Int) ^ v := Int.pow_pos (by omega)
  have ek : (p : Int) ^ k = (p : Int) ^ (k - v) * (p : Int) ^ v := by rw [← Int.pow_add]; congr 1; omega
  constructor
  · rintro ⟨x, hx⟩
    have ha : r * (p : Int) ^ v ≠ 0 := Int.mul_ne_zero r0 (by omega)
    have ht := tkI_pow hp.1 hr v
    obtain ⟨x0, h2⟩ := size_sq hp ha (by rw [ht]; exact hv) hx
    rw [ht] at h2
    have h2' : 2 * (tkI p x).2 = v := h2
    refine ⟨by omega, ?_⟩
    obtain ⟨x1, x2, x3⟩ := tkI_spec hp.1 x0
    generalize (tkI p x).1 = u at *
    generalize (tkI p x).2 = w at *
    refine ⟨u, ?_⟩
    have e : x * x - r * (p : Int) ^ v = (u * u - r) * (p : Int) ^ v := by
      rw [x1, ← h2', show 2 * w = w + w by omega, Int.pow_add]
      generalize (p : Int) ^ w = W
      grind
    rw [e, ek] at hx
    exact Int.dvd_of_mul_dvd_mul_right (by omega) hx
  · rintro ⟨h2, u, hu⟩
    refine ⟨u * (p : Int) ^ (v / 2), ?_⟩
    have ev : (p : Int) ^ v = (p : Int) ^ (v / 2) * (p : Int) ^ (v / 2) := by rw [← Int.pow_add]; congr 1; omega
    have e : u * (p : Int) ^ (v / 2) * (u * (p : Int) ^ (v / 2)) - r * (p : Int) ^ v = (u * u - r) * (p : Int) ^ v := by
      rw [ev]
      generalize (p : Int) ^ (v / 2) = W
      grind
    rw [e, ek]
    exact Int.mul_dvd_mul hu (Int.dvd_refl _)
/-- two remainders together -/
theorem crt_exists {m n : Nat} (hn : 0 < n) (hg : Nat.gcd m n = 1) (x y : Int) : ∃ z : Int, (m : Int) ∣ z - x ∧ (n : Int) ∣ z - y := by
  let f : Int → Int := fun t => (x + m * t - y) % n + 1
  have n0 : (n : Int) ≠ 0 := by omega
  have hp := upTo_perm (n := n) (f := f) (fun t _ => by
    have h0 := Int.emod_nonneg (x + m * t - y) n0
    have h1 := Int.emod_lt_of_pos (x + m * t - y) (show (0 : Int) < n by omega)
    rw [mem_upTo]
    show 1 ≤ _ + 1 ∧ _ + 1 ≤ _
    omega) (fun t ht s hs e => by
    have e' : (x + m * t - y) % n = (x + m * s - y) % n := by
      have : (x + m * t - y) % n + 1 = (x + m * s - y) % n + 1 := e
      omega
    have hd : (n : Int) ∣ m * (t - s) := by
      have := Int.dvd_of_emod_eq_zero (Int.emod_eq_emod_iff_emod_sub_eq_zero.mp e')
      rwa [show x + m * t - y - (x + m * s - y) = m * (t - s) by grind] at this
    have hd2 : (n : Int) ∣ t - s := by
      have hc : Nat.Coprime n m := by rw [Nat.Coprime, Nat.gcd_comm]; exact hg
      rw [← Int.natAbs_dvd_natAbs, Int.natAbs_mul] at hd
      exact Int.natAbs_dvd_natAbs.mp (hc.dvd_of_dvd_mul_left hd)
    rw [mem_upTo] at ht hs
    rcases Int.lt_trichotomy t s with z | z | z
    · have d' : (n : Int) ∣ s - t := dvd_sy hd2
      have := Int.le_of_dvd (by omega) d'
      omega
    · exact z
    · have := Int.le_of_dvd (by omega) hd2
      omega)
  have hm : (1 : Int) ∈ (upTo n).map f := hp.mem_iff.mpr (by rw [mem_upTo]; omega)
  obtain ⟨t, _, ht⟩ := List.mem_map.mp hm
  have h0 : (x + m * t - y) % n = 0 := by
    have : (x + m * t - y) % n + 1 = 1 := ht
    omega
  exact ⟨x + m * t, ⟨t, by omega⟩, Int.dvd_of_emod_eq_zero h0⟩
theorem cop_dvd {m n : Nat} (hg : Nat.gcd m n = 1) {z : Int} (h1 : (m : Int) ∣ z) (h2 : (n : Int) ∣ z) : ((m * n : Nat) : Int) ∣ z := by
  rw [← Int.natAbs_dvd_natAbs, Int.natAbs_natCast] at *
  exact Nat.Coprime.mul_dvd_of_dvd_of_dvd hg h1 h2
theorem sol_crt {m n : Nat} (hn : 0 < n) (hg : Nat.gcd m n = 1) {a : Int} (h1 : SolM m a) (h2 : SolM n a) : SolM ((m * n : Nat) : Int) a := by
  obtain ⟨x, hx⟩ := h1
  obtain ⟨y, hy⟩ := h2
  obtain ⟨z, z1, z2⟩ := crt_exists hn hg x y
  have sq : ∀ {k w : Int}, k ∣ z - w → k ∣ w * w - a → k ∣ z * z - a := fun {k w} d1 d2 => by
    have := Int.dvd_add (Int.dvd_mul_of_dvd_left (c := z + w) d1) d2
    rwa [show (z - w) * (z + w) + (w * w - a) = z * z - a by grind] at this
  exact ⟨z, cop_dvd hg (sq z1 hx) (sq z2 hy)⟩
theorem fac_dvd {n : Nat} (hn : 0 < n) : ∀ p ∈ fac n, p.1 ^ p.2 ∣ n := by
  have key : ∀ (ps : List (Nat × Nat)), ∀ p ∈ ps, p.1 ^ p.2 ∣ prodF ps := by
    intro ps
    induction ps with
    | nil => intro p hp; nomatch hp
    | cons q ps ih =>
      intro p hp
      rw [prodF_cons]
      rcases List.mem_cons.mp hp with rfl | hp
      · exact Nat.dvd_mul_right _ _
      · exact Nat.dvd_trans (ih p hp) (Nat.dvd_mul_left _ _)
  intro p hp
  have := key (fac n) p hp
  rwa [fac_prod n hn] at this
theorem sol_fac {a : Int} : ∀ (k n : Nat), n ≤ k → 0 < n → (SolM (n : Nat) a ↔ ∀ p ∈ fac n, SolM ((p.1 : Int) ^ p.2) a) := by
  intro k
  induction k with
  | zero => intro n h h0; omega
  | succ k ih =>
    intro n h h0
    constructor
    · intro hs p hp
      refine hs.of_dvd ?_
      rw [← Int.natCast_pow]
      exact Int.natCast_dvd_natCast.mpr (fac_dvd h0 p hp)
    · intro hall
      by_cases n2 : 2 ≤ n
      · rw [fac_more n2] at hall
        have hqp := minFac_prime n2
        obtain ⟨f1, f2, f3⟩ := minFac_spec n2
        obtain ⟨t1, t2, t3⟩ := takeOut_lt f2 h0 f1
        obtain ⟨s1, s2, s3⟩ := takeOut_spec f2 n h0
        have h1 := hall _ List.mem_cons_self
        have h2 := (ih (takeOut (minFac n) n).1 (by omega) s2).mpr fun p hp => hall p (List.mem_cons_of_mem _ hp)
        rw [s1]
        refine sol_crt (Nat.pow_pos (by omega)) ?_ h2 (by rw [Int.natCast_pow]; exact h1)
        have := hqp.gcd_pow (r := ((takeOut (minFac n) n).1 : Int)) (fun d => s3 (Nat.mod_eq_zero_of_dvd (Int.natCast_dvd_natCast.mp d))) (takeOut (minFac n) n).2
        rw [← Int.natCast_pow] at this
        exact this
      · have : n = 1 := by omega
        subst this
        exact ⟨0, Int.one_dvd _⟩
/-- the roots, all -/
def Roots (n a : Int) (xs : List Int) : Prop := xs.Nodup ∧ ∀ x, x ∈ xs ↔ 0 ≤ x ∧ x < n ∧ n ∣ x * x - a
theorem Roots.len {n : Nat} {a : Int} {xs : List Int} (h : Roots n a xs) : xs.length ≤ n := by
  have key : ∀ {l l' : List Int}, l.Nodup → (∀ x ∈ l, x ∈ l') → l.length ≤ l'.length := by
    intro l
    induction l with
    | nil => intro l' _ _; exact Nat.zero_le _
    | cons a l ih =>
      intro l' hn hs
      rw [List.nodup_cons] at hn
      have ha := hs a List.mem_cons_self
      have := ih (l' := l'.erase a) hn.2 fun x hx => (List.mem_erase_of_ne (fun e => hn.1 (by rw [← e]; exact hx))).mpr (hs x (List.mem_cons_of_mem _ hx))
      rw [List.length_erase_of_mem ha] at this
      have := List.length_pos_of_mem ha
      rw [List.length_cons]
      omega
  have := key (l := xs.map (· + 1)) (l' := upTo n) (by
    unfold List.Nodup
    rw [List.pairwise_map]
    have hn := h.1
    unfold List.Nodup at hn
    exact hn.imp fun {a b} hne e => hne (by omega)) (fun x hx => by
    obtain ⟨y, hy, rfl⟩ := List.mem_map.mp hx
    have := (h.2 y).mp hy
    rw [mem_upTo]
    omega)
  rwa [List.length_map, upTo_len] at this
theorem asc_uniq : ∀ {l1 l2 : List Int}, l1.Pairwise (· < ·) → l2.Pairwise (· < ·) → (∀ x, x ∈ l1 ↔ x ∈ l2) → l1 = l2
  | [], [], _, _, _ => rfl
  | [], b :: l2, _, _, h => by have := (h b).mpr List.mem_cons_self; nomatch this
  | a :: l1, [], _, _, h => by have := (h a).mp List.mem_cons_self; nomatch this
  | a :: l1, b :: l2, h1, h2, h => by
    rw [List.pairwise_cons] at h1 h2
    have e : a = b := by
      rcases List.mem_cons.mp ((h a).mp List.mem_cons_self) with e | m1
      · exact e
      · rcases List.mem_cons.mp ((h b).mpr List.mem_cons_self) with e | m2
        · exact e.symm
        · have := h1.1 b m2
          have := h2.1 a m1
          omega
    subst e
    congr 1
    refine asc_uniq h1.2 h2.2 fun x => ?_
    constructor
    · intro hx
      rcases List.mem_cons.mp ((h x).mp (List.mem_cons_of_mem _ hx)) with e | m
      · subst e
        have := h1.1 x hx
        omega
      · exact m
    · intro hx
      rcases List.mem_cons.mp ((h x).mpr (List.mem_cons_of_mem _ hx)) with e | m
      · subst e
        have := h2.1 x hx
        omega
      · exact m
theorem asc_of_le_nodup : ∀ {xs : List Int}, xs.Pairwise (· ≤ ·) → xs.Nodup → xs.Pairwise (· < ·)
  | [], _, _ => .nil
  | b :: xs, pw, nd => by
    rw [List.pairwise_cons] at pw
    rw [List.nodup_cons] at nd
    refine List.pairwise_cons.mpr ⟨fun c hc => ?_, asc_of_le_nodup pw.2 nd.2⟩
    have le := pw.1 c hc
    have ne : b ≠ c := fun z => nd.1 (by rw [z]; exact hc)
    omega
theorem nodup_sub : ∀ {l l' : List Int}, l.Nodup → (∀ x ∈ l, x ∈ l') → l.length ≤ l'.length
  | [], _, _, _ => Nat.zero_le _
  | b :: l, l', hn, hs => by
    rw [List.nodup_cons] at hn
    have hb := hs b List.mem_cons_self
    have := nodup_sub (l := l) (l' := l'.erase b) hn.2 fun x hx => (List.mem_erase_of_ne (fun e => hn.1 (by rw [← e]; exact hx))).mpr (hs x (List.mem_cons_of_mem _ hx))
    rw [List.length_erase_of_mem hb] at this
    have := List.length_pos_of_mem hb
    rw [List.length_cons]
    omega
theorem nodup_len {l : List Int} {N : Int} (hn : l.Nodup) (h : ∀ x ∈ l, 0 ≤ x ∧ x < N) : l.length ≤ N.toNat := by
  have := nodup_sub (l := l.map (· + 1)) (l' := upTo N.toNat) (by
    unfold List.Nodup
    rw [List.pairwise_map]
    unfold List.Nodup at hn
    exact hn.imp fun {a b} hne e => hne (by omega)) (fun y hy => by
    obtain ⟨z, hz, rfl⟩ := List.mem_map.mp hy
    have := h z hz
    rw [mem_upTo]
    omega)
  rwa [List.length_map, upTo_len] at this
local macro_rules | `(tactic| walk_at "d1") => `(tactic| try simp only [dSeq, dSkip, dPass, dRet, dRetN, dDrop, dCond, dAsg, gNm, gTp, dOwn, dOwnL, dPar, dAug, dApp, dExt, dFrz, dFor, dLc, dBreak, dCont, dVar, dC, dOp, dT, dIsi, dNeg, dNot, dTNot, dAnd, dOr, dTAnd, dTOr, dIf, dCh, dNil, dCons, dTup, dLst, dIxO, dB, dCall, dCallW, dItems, dRng1, dRng2, dYes, fnE, startE, startW, startS, dLenO, dLenS, dIxS, dSl, dPt, dNo, wipeE, addD_int, addD_str, addD_tup, addD_lst, subD_int, mulD_int, mulD_tup, mulD_lst, fdivD_int, modD_int, powD_int, shlD_int, shrD_int, andD_int, ltD_int, leD_int, gtD_int, geD_int, eqD_ap, neD_ap, isD_ap, isNotD_ap, isNon_none, isNon_int, isNon_bool, isNon_str, isNon_tup, isNon_lst, isInt_none, isInt_int, isInt_bool, isInt_str, isInt_tup, isInt_lst, isBool_none, isBool_int, isBool_bool, isBool_str, isBool_tup, isBool_lst, isStr_none, isStr_int, isStr_bool, isStr_str, isStr_tup, isStr_lst, isTup_none, isTup_int, isTup_bool, isTup_str, isTup_tup, isTup_lst, isLst_lst, Cnd_true, Cnd_false, Cnd_not, Cnd_dec, asB_bool, forall_const, true_implies, false_implies, implies_true, decide_true, decide_false, Classical.not_not, negD_int, notD_bool, onVal_val, onOwn_own, onDic_dic, onScr_scr, onWv_wv, onInt_int, onTup_tup, onLst_lst, onItems_lst, onItems_tup, frz1_own, frz1_val, frz1_un, ixD_lst, ixD_tup, ixL_int, optD_some, optI_some, absD_int, intD_int, intD_bool, lenD_lst, lenD_tup, lenD_str, tupleD_lst, tupleD_tup, listD_lst, listD_tup, min2D_int, max2D_int, sumD_ints, allD_bls, anyD_bls, slD_lst, slD_tup, slD_str, gNl_nil, gCs_cons, par2_two, seq1_lst, seq1_tup, rng1D_int, rng2D_int, gt_z, gt_s, sp_next_int, set_z, set_s, List.map_cons, List.map_nil, List.length_cons, List.length_nil, List.cons_append, List.nil_append, List.replicate, Nat.reduceAdd, Nat.reduceSub, Nat.zero_add, shaped_int, shaped_bool, shaped_none, shaped_listI, shaped_tupI, shaped_nilL, shaped_nilT, eqv_int, eqv_bool, eqv_str, eqv_none, eqv_list_nil, List.isEmpty_nil, List.isEmpty_cons, Bool.true_eq_false, Bool.false_eq_true, decide_eq_true_eq, and_self, true_and, and_true, not_dec, Bool.not_eq_true', decide_eq_false_iff_not, atI_0, atI_1, atI_2, ite_true, ite_false, if_true, if_false, reduceIte, Bool.not_true, Bool.not_false, not_true_eq_false, not_false_eq_true, List.set_cons_zero, List.set_cons_succ, dPar3, dRev, par3_three, sortedD_ints, revD_tup, two_nat, one_nat, three_nat, dCh3, dOwnC, dPutPar, putPar_two, dZip2, zip2D_lst, zip2D_tup, dPut, isBD_bl, isNotBD_bl, dNewO, dPutO, dSortedO, putKD_int, dPar3O, dParO2, par3O_two, parO2_one, minLD_lst, dKeysW, rdPairs_nil, rdPairs_cons, onPair_ii, revD_lst])
local macro_rules | `(tactic| walk_at "dd") => `(tactic| (walk_at "d1"; repeat (with_reducible (refine then_intro ?_); walk_at "d1")))
/-- k is a prime that divides n -/
def PrD (n k : Int) : Prop := ∃ p : Nat, k = p ∧ PrimeI p ∧ p ∣ n.natAbs
theorem fac_has {p : Nat} (hp : PrimeI p) : ∀ {ps : List (Nat × Nat)}, (∀ q ∈ ps, PrimeI q.1) → p ∣ prodF ps → p ∈ ps.map (·.1)
  | [], _, d => by
    have := Nat.le_of_dvd (by decide) d
    have := hp.1
    have : prodF [] = 1 := rfl
    omega
  | q :: ps, hq, d => by
    rw [prodF_cons] at d
    have d' : (p : Int) ∣ ((q.1 ^ q.2 : Nat) : Int) * ((prodF ps : Nat) : Int) := by
      rw [← Int.natCast_mul]
      exact Int.natCast_dvd_natCast.mpr d
    rw [List.map_cons]
    rcases hp.euclid d' with e | e
    · rw [Int.natCast_pow] at e
      have e1 := Int.natCast_dvd_natCast.mp (hp.pow _ e)
      rw [hp.of_dvd (hq q List.mem_cons_self) e1]
      exact List.mem_cons_self
    · exact List.mem_cons_of_mem _ (fac_has hp (fun r hr => hq r (List.mem_cons_of_mem _ hr)) (Int.natCast_dvd_natCast.mp e))
theorem mem_fac {n : Int} (hn : n ≠ 0) (k : Int) : k ∈ (fac n.natAbs).map (fun p => (p.1 : Int)) ↔ PrD n k := by
  have h0 : 0 < n.natAbs := by omega
  have hp := fac_prime n.natAbs n.natAbs (Nat.le_refl _) h0
  constructor
  · intro h
    obtain ⟨p, hm, rfl⟩ := List.mem_map.mp h
    exact ⟨p.1, rfl, hp p hm⟩
  · rintro ⟨p, rfl, h1, h2⟩
    rw [← fac_prod _ h0] at h2
    obtain ⟨q, hq, e⟩ := List.mem_map.mp (fac_has h1 (fun q hq => (hp q hq).1) h2)
    exact List.mem_map.mpr ⟨q, hq, by rw [e]⟩
theorem PrD.two {n k : Int} (h : PrD n k) : 2 ≤ k := by
  obtain ⟨p, rfl, h1, _⟩ := h
  have := h1.1
  omega
theorem PrD.any {n k : Int} (h : PrD n k) : AnyP k.toNat := by
  obtain ⟨p, rfl, h1, _⟩ := h
  rw [Int.toNat_natCast]
  exact h1.two_or
theorem PrD.le {n k : Int} (hn : n ≠ 0) (h : PrD n k) : k.natAbs ≤ n.natAbs := by
  obtain ⟨p, rfl, h1, h2⟩ := h
  exact Nat.le_of_dvd (by omega) h2
theorem PrD.dvd {n k : Int} (h : PrD n k) : k ∣ n := by
  obtain ⟨p, rfl, h1, h2⟩ := h
  exact Int.ofNat_dvd_left.mpr h2
theorem prD_of {n : Int} {p : Nat} (hp : PrimeI p) (h : (p : Int) ∣ n) : PrD n p := ⟨p, rfl, hp, Int.ofNat_dvd_left.mp h⟩
theorem not_prD_one {k : Int} : ¬ PrD 1 k := fun h => by
  have h1 := h.le (by decide)
  have h2 := h.two
  have : (1 : Int).natAbs = 1 := rfl
  omega
local macro_rules | `(tactic| walk_at "d1") => `(tactic| try simp only [dSeq, dSkip, dPass, dRet, dRetN, dDrop, dCond, dAsg, gNm, gTp, dOwn, dOwnL, dPar, dAug, dApp, dExt, dFrz, dFor, dLc, dBreak, dCont, dVar, dC, dOp, dT, dIsi, dNeg, dNot, dTNot, dAnd, dOr, dTAnd, dTOr, dIf, dCh, dNil, dCons, dTup, dLst, dIxO, dB, dCall, dCallW, dItems, dRng1, dRng2, dYes, fnE, startE, startW, startS, dLenO, dLenS, dIxS, dSl, dPt, dNo, wipeE, addD_int, addD_str, addD_tup, addD_lst, subD_int, mulD_int, mulD_tup, mulD_lst, fdivD_int, modD_int, powD_int, shlD_int, shrD_int, andD_int, ltD_int, leD_int, gtD_int, geD_int, eqD_ap, neD_ap, isD_ap, isNotD_ap, isNon_none, isNon_int, isNon_bool, isNon_str, isNon_tup, isNon_lst, isInt_none, isInt_int, isInt_bool, isInt_str, isInt_tup, isInt_lst, isBool_none, isBool_int, isBool_bool, isBool_str, isBool_tup, isBool_lst, isStr_none, isStr_int, isStr_bool, isStr_str, isStr_tup, isStr_lst, isTup_none, isTup_int, isTup_bool, isTup_str, isTup_tup, isTup_lst, isLst_lst, Cnd_true, Cnd_false, Cnd_not, Cnd_dec, asB_bool, forall_const, true_implies, false_implies, implies_true, decide_true, decide_false, Classical.not_not, negD_int, notD_bool, onVal_val, onOwn_own, onDic_dic, onScr_scr, onWv_wv, onInt_int, onTup_tup, onLst_lst, onItems_lst, onItems_tup, frz1_own, frz1_val, frz1_un, ixD_lst, ixD_tup, ixL_int, optD_some, optI_some, absD_int, intD_int, intD_bool, lenD_lst, lenD_tup, lenD_str, tupleD_lst, tupleD_tup, listD_lst, listD_tup, min2D_int, max2D_int, sumD_ints, allD_bls, anyD_bls, slD_lst, slD_tup, slD_str, gNl_nil, gCs_cons, par2_two, seq1_lst, seq1_tup, rng1D_int, rng2D_int, gt_z, gt_s, sp_next_int, set_z, set_s, List.map_cons, List.map_nil, List.length_cons, List.length_nil, List.cons_append, List.nil_append, List.replicate, Nat.reduceAdd, Nat.reduceSub, Nat.zero_add, shaped_int, shaped_bool, shaped_none, shaped_listI, shaped_tupI, shaped_nilL, shaped_nilT, eqv_int, eqv_bool, eqv_str, eqv_none, eqv_list_nil, List.isEmpty_nil, List.isEmpty_cons, Bool.true_eq_false, Bool.false_eq_true, decide_eq_true_eq, and_self, true_and, and_true, not_dec, Bool.not_eq_true', decide_eq_false_iff_not, atI_0, atI_1, atI_2, ite_true, ite_false, if_true, if_false, reduceIte, Bool.not_true, Bool.not_false, not_true_eq_false, not_false_eq_true, List.set_cons_zero, List.set_cons_succ, dPar3, dRev, par3_three, sortedD_ints, revD_tup, two_nat, one_nat, three_nat, dCh3, dOwnC, dPutPar, putPar_two, dZip2, zip2D_lst, zip2D_tup, dPut, isBD_bl, isNotBD_bl, dNewO, dPutO, dSortedO, putKD_int, dPar3O, dParO2, par3O_two, parO2_one, minLD_lst, dKeysW, rdPairs_nil, rdPairs_cons, onPair_ii, revD_lst])
local macro_rules | `(tactic| walk_at "dd") => `(tactic| (walk_at "d1"; repeat (with_reducible (refine then_intro ?_); walk_at "d1")))
/-- a zero modulo m with one letter 1 -/
def ZeroM (m A B C : Int) : Prop := ∃ x y z : Int, (x = 1 ∨ y = 1 ∨ z = 1) ∧ m ∣ A * (x * x) + B * (y * y) + C * (z * z)
theorem exists_inv {p : Nat} (hp : PrimeI p) {a : Int} (ha : ¬ (p : Int) ∣ a) (e : Nat) : ∃ u : Int, (p : Int) ^ e ∣ a * u - 1 := by
  have hg := hp.gcd_pow ha e
  have hp0 : 0 < p ^ e := Nat.pow_pos (by have := hp.1; omega)
  obtain ⟨z, z1, z2⟩ := crt_exists (m := a.natAbs) (n := p ^ e) hp0 (by
    rw [← Int.natCast_pow] at hg
    exact hg) 0 1
  rw [Int.sub_zero] at z1
  obtain ⟨t, ht⟩ := Int.natAbs_dvd.mp z1
  refine ⟨t, ?_⟩
  rw [← ht, ← Int.natCast_pow]
  exact z2
/-- two letters, units: a x x + b y y comes to 1 -/
theorem two_units {p : Nat} (hp : OddP p) {a b : Int} (ha : ¬ (p : Int) ∣ a) (hb : ¬ (p : Int) ∣ b) : ∃ x y : Int, (p : Int) ∣ a * (x * x) + b * (y * y) - 1 := by
  have h3 := hp.three
  have ho := hp.odd
  have p0 : (p : Int) ≠ 0 := by omega
  have pp : (0 : Int) < p := by omega
  -- the values of a x x and of 1 - b y y, for 0 .. (p - 1) / 2
  let h := (p + 1) / 2
  let f : Nat → Int := fun i => a * ((i : Int) * i) % p
  let g : Nat → Int := fun i => (1 - b * ((i : Int) * i)) % p
  have inj : ∀ {c : Int}, ¬ (p : Int) ∣ c → ∀ i j : Nat, i < h → j < h → (p : Int) ∣ c * ((i : Int) * i - (j : Int) * j) → i = j := fun {c} hc i j hi hj d => by
    have hi' : i < (p + 1) / 2 := hi
    have hj' : j < (p + 1) / 2 := hj
    rcases hp.pr.euclid d with d | d
    · exact absurd d hc
    · rw [show (i : Int) * i - (j : Int) * j = ((i : Int) - j) * ((i : Int) + j) by grind] at d
      rcases hp.pr.euclid d with d | d
      · have := hp.pr.diff (a := i) (b := j) (by omega) (by omega) (by omega) (by omega) d
        omega
      · rcases Nat.eq_zero_or_pos (i + j) with z | z
        · omega
        · exact absurd d (hp.pr.small (by omega) (by omega))
  apply Classical.byContradiction
  intro hne
  have disj : ∀ i j : Nat, f i ≠ g j := fun i j e => hne ⟨i, j, by
    have := Int.dvd_of_emod_eq_zero (Int.emod_eq_emod_iff_emod_sub_eq_zero.mp e)
    rwa [show a * ((i : Int) * i) - (1 - b * ((j : Int) * j)) = a * ((i : Int) * i) + b * ((j : Int) * j) - 1 by omega] at this⟩
  have fin : ∀ i j : Nat, i < h → j < h → f i = f j → i = j := fun i j hi hj e => by
    have := Int.dvd_of_emod_eq_zero (Int.emod_eq_emod_iff_emod_sub_eq_zero.mp e)
    rw [show a * ((i : Int) * i) - a * ((j : Int) * j) = a * ((i : Int) * i - (j : Int) * j) by grind] at this
    exact inj ha i j hi hj this
  have gin : ∀ i j : Nat, i < h → j < h → g i = g j → i = j := fun i j hi hj e => by
    have := Int.dvd_of_emod_eq_zero (Int.emod_eq_emod_iff_emod_sub_eq_zero.mp e)
    rw [show 1 - b * ((i : Int) * i) - (1 - b * ((j : Int) * j)) = b * ((j : Int) * j - (i : Int) * i) by grind] at this
    exact (inj hb j i hj hi this).symm
  have nd : ∀ {k : Nat → Int}, (∀ i j : Nat, i < h → j < h → k i = k j → i = j) → ((List.range h).map k).Nodup := fun {k} hk => by
    unfold List.Nodup
    rw [List.pairwise_map]
    have hn := List.nodup_range (n := h)
    unfold List.Nodup at hn
    refine List.Pairwise.imp_of_mem (fun {i j} hi hj hne e => ?_) hn
    rw [List.mem_range] at hi hj
    exact hne (hk i j hi hj e)
  have hall : ((List.range h).map f ++ (List.range h).map g).Nodup := by
    rw [List.nodup_append]
    refine ⟨nd fin, nd gin, fun x hx y hy e => ?_⟩
    obtain ⟨i, _, rfl⟩ := List.mem_map.mp hx
    obtain ⟨j, _, rfl⟩ := List.mem_map.mp hy
    exact disj i j e
  have hlen := nodup_len (N := (p : Int)) hall fun x hx => by
    rcases List.mem_append.mp hx with hx | hx
    · obtain ⟨i, _, rfl⟩ := List.mem_map.mp hx
      exact ⟨Int.emod_nonneg _ p0, Int.emod_lt_of_pos _ pp⟩
    · obtain ⟨i, _, rfl⟩ := List.mem_map.mp hx
      exact ⟨Int.emod_nonneg _ p0, Int.emod_lt_of_pos _ pp⟩
  rw [List.length_append, List.length_map, List.length_map, List.length_range, Int.toNat_natCast] at hlen
  have : h = (p + 1) / 2 := rfl
  omega
/-- a square times a unit: a x x = c modulo a power, if so modulo p -/
theorem lift_one {p : Nat} (hp : OddP p) {a c x : Int} (ha : ¬ (p : Int) ∣ a) (hx : ¬ (p : Int) ∣ x) (h : (p : Int) ∣ a * (x * x) - c) {e : Nat} (he : 1 ≤ e) : ∃ w : Int, (p : Int) ^ e ∣ a * (w * w) - c := by
  have hac : ¬ (p : Int) ∣ a * c := fun d => by
    rcases hp.pr.euclid d with d | d
    · exact ha d
    · have := Int.dvd_add h d
      rw [show a * (x * x) - c + c = a * (x * x) by omega] at this
      rcases hp.pr.euclid this with d | d
      · exact ha d
      · rcases hp.pr.euclid d with d | d <;> exact hx d
  have hl : leg p (a * c) = 1 := by
    have : (p : Int) ∣ a * c - a * x * (a * x) := by
      have := Int.dvd_mul_of_dvd_right (b := -a) h
      rwa [show -a * (a * (x * x) - c) = a * c - a * x * (a * x) by grind] at this
    rw [leg_cong hp this]
    refine leg_sq_self hp fun d => ?_
    rcases hp.pr.euclid d with d | d
    · exact ha d
    · exact hx d
  obtain ⟨w, hw⟩ := (sol_pow_odd hp hac he).mpr hl
  obtain ⟨u, hu⟩ := exists_inv hp.pr ha e
  refine ⟨u * w, ?_⟩
  -- a (u w)^2 - c = u (a u) w w - c
  have d1 := Int.dvd_mul_of_dvd_left (c := u * (w * w)) hu
  have d2 := Int.dvd_mul_of_dvd_right (b := u) hw
  have d3 := Int.dvd_mul_of_dvd_left (c := c) hu
  have := Int.dvd_add (Int.dvd_add d1 d2) d3
  rwa [show (a * u - 1) * (u * (w * w)) + u * (w * w - a * c) + (a * u - 1) * c = a * (u * w * (u * w)) - c by grind] at this
section
variable {p : Nat} (hp : OddP p) {e : Nat}
include hp
theorem zero_units {A B : Int} (hA : ¬ (p : Int) ∣ A) (hB : ¬ (p : Int) ∣ B) (he : 1 ≤ e) : ZeroM ((p : Int) ^ e) A B (-1) := by
  obtain ⟨x, y, h⟩ := two_units hp hA hB
  by_cases hx : (p : Int) ∣ x
  · have hy : ¬ (p : Int) ∣ y := fun hy => by
      have := Int.dvd_sub (Int.dvd_add (Int.dvd_mul_of_dvd_right (b := A) (Int.dvd_mul_of_dvd_left (c := x) hx)) (Int.dvd_mul_of_dvd_right (b := B) (Int.dvd_mul_of_dvd_left (c := y) hy))) h
      rw [show A * (x * x) + B * (y * y) - (A * (x * x) + B * (y * y) - 1) = 1 by omega] at this
      have := Int.le_of_dvd (by decide) this
      have := hp.three
      omega
    obtain ⟨w, hw⟩ := lift_one hp hB hy (c := 1 - A * (x * x)) (by rwa [show B * (y * y) - (1 - A * (x * x)) = A * (x * x) + B * (y * y) - 1 by omega]) he
    exact ⟨x, w, 1, .inr (.inr rfl), by rwa [show A * (x * x) + B * (w * w) + -1 * (1 * 1) = B * (w * w) - (1 - A * (x * x)) by omega]⟩
  · obtain ⟨w, hw⟩ := lift_one hp hA hx (c := 1 - B * (y * y)) (by rwa [show A * (x * x) - (1 - B * (y * y)) = A * (x * x) + B * (y * y) - 1 by omega]) he
    exact ⟨w, y, 1, .inr (.inr rfl), by rwa [show A * (w * w) + B * (y * y) + -1 * (1 * 1) = A * (w * w) - (1 - B * (y * y)) by omega]⟩
theorem leg_of_sq {B y z : Int} (hB : ¬ (p : Int) ∣ B) (hy : ¬ (p : Int) ∣ y) (h : (p : Int) ∣ B * (y * y) - z * z) : leg p B = 1 := by
  have hz : ¬ (p : Int) ∣ z := fun d => by
    have := Int.dvd_add h (Int.dvd_mul_of_dvd_left (c := z) d)
    rw [show B * (y * y) - z * z + z * z = B * (y * y) by omega] at this
    rcases hp.pr.euclid this with d | d
    · exact hB d
    · rcases hp.pr.euclid d with d | d <;> exact hy d
  have h1 := leg_cong hp h
  rw [leg_mul hp, leg_sq_self hp hy, leg_sq_self hp hz] at h1
  omega
/-- p u x x + B y y - z z -/
theorem zero_one {u B : Int} (hu : ¬ (p : Int) ∣ u) (hB : ¬ (p : Int) ∣ B) (he : 2 ≤ e) : ZeroM ((p : Int) ^ e) ((p : Int) * u) B (-1) ↔ leg p B = 1 := by
  have h3 := hp.three
  have pe : (p : Int) ^ e = (p : Int) * p * (p : Int) ^ (e - 2) := by
    have : (p : Int) ^ e = (p : Int) ^ (e - 2) * p * p := by rw [← Int.pow_succ, ← Int.pow_succ]; congr 1; omega
    rw [this]
    grind
  have d1 : (p : Int) ∣ (p : Int) ^ e := by rw [pe, Int.mul_assoc]; exact Int.dvd_mul_right _ _
  have d2 : (p : Int) * p ∣ (p : Int) ^ e := by rw [pe]; exact Int.dvd_mul_right _ _
  constructor
  · rintro ⟨x, y, z, hc, h⟩
    have hm : (p : Int) ∣ B * (y * y) - z * z := by
      have := Int.dvd_sub (Int.dvd_trans d1 h) (Int.dvd_mul_right (p : Int) (u * (x * x)))
      rwa [show (p : Int) * u * (x * x) + B * (y * y) + -1 * (z * z) - (p : Int) * (u * (x * x)) = B * (y * y) - z * z by rw [Int.mul_assoc]; omega] at this
    by_cases hy : (p : Int) ∣ y
    · exfalso
      have hz : (p : Int) ∣ z := by
        have := Int.dvd_sub (Int.dvd_mul_of_dvd_right (b := B) (Int.dvd_mul_of_dvd_left (c := y) hy)) hm
        rw [show B * (y * y) - (B * (y * y) - z * z) = z * z by omega] at this
        rcases hp.pr.euclid this with d | d <;> exact d
      have one : ¬ (p : Int) ∣ 1 := hp.pr.small (by decide) (by omega)
      rcases hc with rfl | rfl | rfl
      · -- p u divisible by p p
        have e1 : (p : Int) * p ∣ B * (y * y) - z * z := by
          have q1 := Int.mul_dvd_mul hy hy
          have q2 := Int.mul_dvd_mul hz hz
          exact Int.dvd_sub (Int.dvd_mul_of_dvd_right q1) q2
        have := Int.dvd_sub (Int.dvd_trans d2 h) e1
        rw [show (p : Int) * u * (1 * 1) + B * (y * y) + -1 * (z * z) - (B * (y * y) - z * z) = (p : Int) * u by omega] at this
        exact hu (Int.dvd_of_mul_dvd_mul_left (by omega) this)
      · exact one hy
      · exact one hz
    · exact leg_of_sq hp hB hy hm
  · intro hl
    obtain ⟨z, hz⟩ := (sol_pow_odd hp hB (j := e) (by omega)).mpr hl
    refine ⟨0, 1, z, .inr (.inl rfl), ?_⟩
    rw [show (p : Int) * u * (0 * 0) + B * (1 * 1) + -1 * (z * z) = -(z * z - B) by omega]
    exact Int.dvd_neg.mpr hz
theorem zeroM_swap {m A B C : Int} : ZeroM m A B C ↔ ZeroM m B A C := by
  constructor
  · rintro ⟨x, y, z, hc, h⟩
    exact ⟨y, x, z, by rcases hc with h | h | h; exact .inr (.inl h); exact .inl h; exact .inr (.inr h), by rwa [show B * (y * y) + A * (x * x) = A * (x * x) + B * (y * y) by omega]⟩
  · rintro ⟨x, y, z, hc, h⟩
    exact ⟨y, x, z, by rcases hc with h | h | h; exact .inr (.inl h); exact .inl h; exact .inr (.inr h), by rwa [show A * (y * y) + B * (x * x) = B * (x * x) + A * (y * y) by omega]⟩
/-- p u x x + p v y y - z z -/
theorem zero_two {u v : Int} (hu : ¬ (p : Int) ∣ u) (hv : ¬ (p : Int) ∣ v) (he : 2 ≤ e) : ZeroM ((p : Int) ^ e) ((p : Int) * u) ((p : Int) * v) (-1) ↔ leg p (-(u * v)) = 1 := by
  have h3 := hp.three
  have pe : (p : Int) ^ e = (p : Int) * p * (p : Int) ^ (e - 2) := by
    have : (p : Int) ^ e = (p : Int) ^ (e - 2) * p * p := by rw [← Int.pow_succ, ← Int.pow_succ]; congr 1; omega
    rw [this]
    grind
  have d1 : (p : Int) ∣ (p : Int) ^ e := by rw [pe, Int.mul_assoc]; exact Int.dvd_mul_right _ _
  have d2 : (p : Int) * p ∣ (p : Int) ^ e := by rw [pe]; exact Int.dvd_mul_right _ _
  have huv : ¬ (p : Int) ∣ -(u * v) := fun d => by
    rcases hp.pr.euclid (Int.dvd_neg.mp d) with d | d
    · exact hu d
    · exact hv d
  have one : ¬ (p : Int) ∣ 1 := hp.pr.small (by decide) (by omega)
  constructor
  · rintro ⟨x, y, z, hc, h⟩
    have hz : (p : Int) ∣ z := by
      have := Int.dvd_sub (Int.dvd_mul_right (p : Int) (u * (x * x) + v * (y * y))) (Int.dvd_trans d1 h)
      rw [show (p : Int) * (u * (x * x) + v * (y * y)) - ((p : Int) * u * (x * x) + (p : Int) * v * (y * y) + -1 * (z * z)) = z * z by grind] at this
      rcases hp.pr.euclid this with d | d <;> exact d
    have hm : (p : Int) ∣ u * (x * x) + v * (y * y) := by
      have := Int.dvd_add (Int.dvd_trans d2 h) (Int.mul_dvd_mul hz hz)
      rw [show (p : Int) * u * (x * x) + (p : Int) * v * (y * y) + -1 * (z * z) + z * z = (p : Int) * (u * (x * x) + v * (y * y)) by grind] at this
      exact Int.dvd_of_mul_dvd_mul_left (by omega) this
    rcases hc with rfl | rfl | rfl
    · -- u = - v y y
      have hy : ¬ (p : Int) ∣ y := fun d => by
        have := Int.dvd_sub hm (Int.dvd_mul_of_dvd_right (b := v) (Int.dvd_mul_of_dvd_left (c := y) d))
        rw [show u * (1 * 1) + v * (y * y) - v * (y * y) = u by omega] at this
        exact hu this
      refine leg_of_sq hp huv one (z := v * y) ?_
      have := Int.dvd_mul_of_dvd_right (b := -v) hm
      rwa [show -v * (u * (1 * 1) + v * (y * y)) = -(u * v) * (1 * 1) - v * y * (v * y) by grind] at this
    · have hx : ¬ (p : Int) ∣ x := fun d => by
        have := Int.dvd_sub hm (Int.dvd_mul_of_dvd_right (b := u) (Int.dvd_mul_of_dvd_left (c := x) d))
        rw [show u * (x * x) + v * (1 * 1) - u * (x * x) = v by omega] at this
        exact hv this
      refine leg_of_sq hp huv one (z := u * x) ?_
      have := Int.dvd_mul_of_dvd_right (b := -u) hm
      rwa [show -u * (u * (x * x) + v * (1 * 1)) = -(u * v) * (1 * 1) - u * x * (u * x) by grind] at this
    · exact absurd hz one
  · intro hl
    obtain ⟨w, hw⟩ := (sol_pow_odd hp huv (j := e) (by omega)).mpr hl
    obtain ⟨t, ht⟩ := exists_inv hp.pr hv e
    refine ⟨1, t * w, 0, .inl rfl, ?_⟩
    have q1 := Int.dvd_mul_of_dvd_right (b := (p : Int) * t) hw
    have q2 := Int.dvd_mul_of_dvd_right (b := (p : Int) * (t * (w * w))) ht
    have q3 := Int.dvd_mul_of_dvd_right (b := (p : Int) * u) ht
    have := Int.dvd_sub (Int.dvd_add q1 q2) q3
    rwa [show (p : Int) * t * (w * w - -(u * v)) + (p : Int) * (t * (w * w)) * (v * t - 1) - (p : Int) * u * (v * t - 1) = (p : Int) * u * (1 * 1) + (p : Int) * v * (t * w * (t * w)) + -1 * (0 * 0) by grind] at this
end
local macro_rules | `(tactic| walk_at "d1") => `(tactic| try simp only [dSeq, dSkip, dPass, dRet, dRetN, dDrop, dCond, dAsg, gNm, gTp, dOwn, dOwnL, dPar, dAug, dApp, dExt, dFrz, dFor, dLc, dBreak, dCont, dVar, dC, dOp, dT, dIsi, dNeg, dNot, dTNot, dAnd, dOr, dTAnd, dTOr, dIf, dCh, dNil, dCons, dTup, dLst, dIxO, dB, dCall, dCallW, dItems, dRng1, dRng2, dYes, fnE, startE, startW, startS, dLenO, dLenS, dIxS, dSl, dPt, dNo, wipeE, addD_int, addD_str, addD_tup, addD_lst, subD_int, mulD_int, mulD_tup, mulD_lst, fdivD_int, modD_int, powD_int, shlD_int, shrD_int, andD_int, ltD_int, leD_int, gtD_int, geD_int, eqD_ap, neD_ap, isD_ap, isNotD_ap, isNon_none, isNon_int, isNon_bool, isNon_str, isNon_tup, isNon_lst, isInt_none, isInt_int, isInt_bool, isInt_str, isInt_tup, isInt_lst, isBool_none, isBool_int, isBool_bool, isBool_str, isBool_tup, isBool_lst, isStr_none, isStr_int, isStr_bool, isStr_str, isStr_tup, isStr_lst, isTup_none, isTup_int, isTup_bool, isTup_str, isTup_tup, isTup_lst, isLst_lst, Cnd_true, Cnd_false, Cnd_not, Cnd_dec, asB_bool, forall_const, true_implies, false_implies, implies_true, decide_true, decide_false, Classical.not_not, negD_int, notD_bool, onVal_val, onOwn_own, onDic_dic, onScr_scr, onWv_wv, onInt_int, onTup_tup, onLst_lst, onItems_lst, onItems_tup, frz1_own, frz1_val, frz1_un, ixD_lst, ixD_tup, ixL_int, optD_some, optI_some, absD_int, intD_int, intD_bool, lenD_lst, lenD_tup, lenD_str, tupleD_lst, tupleD_tup, listD_lst, listD_tup, min2D_int, max2D_int, sumD_ints, allD_bls, anyD_bls, slD_lst, slD_tup, slD_str, gNl_nil, gCs_cons, par2_two, seq1_lst, seq1_tup, rng1D_int, rng2D_int, gt_z, gt_s, sp_next_int, set_z, set_s, List.map_cons, List.map_nil, List.length_cons, List.length_nil, List.cons_append, List.nil_append, List.replicate, Nat.reduceAdd, Nat.reduceSub, Nat.zero_add, shaped_int, shaped_bool, shaped_none, shaped_listI, shaped_tupI, shaped_nilL, shaped_nilT, eqv_int, eqv_bool, eqv_str, eqv_none, eqv_list_nil, List.isEmpty_nil, List.isEmpty_cons, Bool.true_eq_false, Bool.false_eq_true, decide_eq_true_eq, and_self, true_and, and_true, not_dec, Bool.not_eq_true', decide_eq_false_iff_not, atI_0, atI_1, atI_2, ite_true, ite_false, if_true, if_false, reduceIte, Bool.not_true, Bool.not_false, not_true_eq_false, not_false_eq_true, List.set_cons_zero, List.set_cons_succ, dPar3, dRev, par3_three, sortedD_ints, revD_tup, two_nat, one_nat, three_nat, dCh3, dOwnC, dPutPar, putPar_two, dZip2, zip2D_lst, zip2D_tup, dPut, isBD_bl, isNotBD_bl, dNewO, dPutO, dSortedO, putKD_int, dPar3O, dParO2, par3O_two, parO2_one, minLD_lst, dKeysW, rdPairs_nil, rdPairs_cons, onPair_ii, revD_lst])
local macro_rules | `(tactic| walk_at "dd") => `(tactic| (walk_at "d1"; repeat (with_reducible (refine then_intro ?_); walk_at "d1")))
/-- the squares modulo 64 -/
def sq64 : List Nat := [0, 1, 4, 9, 16, 17, 25, 33, 36, 41, 49, 57]
def mask64 (c : Nat) : Nat := sq64.foldl (fun m s => m ||| (1 <<< (c * s % 64))) 0
/-- a + b s + c s' = 0 for some squares -/
def hit64 (a b c : Nat) : Bool := let m := mask64 c; sq64.any fun s => m.testBit ((128 * 64 - a - b * s) % 64)
def zero64 (A B : Nat) : Bool := hit64 A 63 B || hit64 B A 63 || hit64 63 B A
def half2 (u : Nat) : Nat := (u - 1) / 2 % 2
def eighth2 (u : Nat) : Nat := if u % 8 = 3 ∨ u % 8 = 5 then 1 else 0
def hil2 (A B : Nat) : Bool :=
  let k := if A % 2 = 0 then 1 else 0
  let u := if A % 2 = 0 then A / 2 else A
  let m := if B % 2 = 0 then 1 else 0
  let v := if B % 2 = 0 then B / 2 else B
  decide ((half2 u * half2 v + k * eighth2 v + m * eighth2 u) % 2 = 0)
theorem check64 : (List.range 64).all (fun A => decide (A % 4 = 0) || (List.range 64).all fun B => decide (B % 4 = 0) || (zero64 A B == hil2 A B)) = true := by decide +kernel
local macro_rules | `(tactic| walk_at "d1") => `(tactic| try simp only [dSeq, dSkip, dPass, dRet, dRetN, dDrop, dCond, dAsg, gNm, gTp, dOwn, dOwnL, dPar, dAug, dApp, dExt, dFrz, dFor, dLc, dBreak, dCont, dVar, dC, dOp, dT, dIsi, dNeg, dNot, dTNot, dAnd, dOr, dTAnd, dTOr, dIf, dCh, dNil, dCons, dTup, dLst, dIxO, dB, dCall, dCallW, dItems, dRng1, dRng2, dYes, fnE, startE, startW, startS, dLenO, dLenS, dIxS, dSl, dPt, dNo, wipeE, addD_int, addD_str, addD_tup, addD_lst, subD_int, mulD_int, mulD_tup, mulD_lst, fdivD_int, modD_int, powD_int, shlD_int, shrD_int, andD_int, ltD_int, leD_int, gtD_int, geD_int, eqD_ap, neD_ap, isD_ap, isNotD_ap, isNon_none, isNon_int, isNon_bool, isNon_str, isNon_tup, isNon_lst, isInt_none, isInt_int, isInt_bool, isInt_str, isInt_tup, isInt_lst, isBool_none, isBool_int, isBool_bool, isBool_str, isBool_tup, isBool_lst, isStr_none, isStr_int, isStr_bool, isStr_str, isStr_tup, isStr_lst, isTup_none, isTup_int, isTup_bool, isTup_str, isTup_tup, isTup_lst, isLst_lst, Cnd_true, Cnd_false, Cnd_not, Cnd_dec, asB_bool, forall_const, true_implies, false_implies, implies_true, decide_true, decide_false, Classical.not_not, negD_int, notD_bool, onVal_val, onOwn_own, onDic_dic, onScr_scr, onWv_wv, onInt_int, onTup_tup, onLst_lst, onItems_lst, onItems_tup, frz1_own, frz1_val, frz1_un, ixD_lst, ixD_tup, ixL_int, optD_some, optI_some, absD_int, intD_int, intD_bool, lenD_lst, lenD_tup, lenD_str, tupleD_lst, tupleD_tup, listD_lst, listD_tup, min2D_int, max2D_int, sumD_ints, allD_bls, anyD_bls, slD_lst, slD_tup, slD_str, gNl_nil, gCs_cons, par2_two, seq1_lst, seq1_tup, rng1D_int, rng2D_int, gt_z, gt_s, sp_next_int, set_z, set_s, List.map_cons, List.map_nil, List.length_cons, List.length_nil, List.cons_append, List.nil_append, List.replicate, Nat.reduceAdd, Nat.reduceSub, Nat.zero_add, shaped_int, shaped_bool, shaped_none, shaped_listI, shaped_tupI, shaped_nilL, shaped_nilT, eqv_int, eqv_bool, eqv_str, eqv_none, eqv_list_nil, List.isEmpty_nil, List.isEmpty_cons, Bool.true_eq_false, Bool.false_eq_true, decide_eq_true_eq, and_self, true_and, and_true, not_dec, Bool.not_eq_true', decide_eq_false_iff_not, atI_0, atI_1, atI_2, ite_true, ite_false, if_true, if_false, reduceIte, Bool.not_true, Bool.not_false, not_true_eq_false, not_false_eq_true, List.set_cons_zero, List.set_cons_succ, dPar3, dRev, par3_three, sortedD_ints, revD_tup, two_nat, one_nat, three_nat, dCh3, dOwnC, dPutPar, putPar_two, dZip2, zip2D_lst, zip2D_tup, dPut, isBD_bl, isNotBD_bl, dNewO, dPutO, dSortedO, putKD_int, dPar3O, dParO2, par3O_two, parO2_one, minLD_lst, dKeysW, rdPairs_nil, rdPairs_cons, onPair_ii, revD_lst])
local macro_rules | `(tactic| walk_at "dd") => `(tactic| (walk_at "d1"; repeat (with_reducible (refine then_intro ?_); walk_at "d1")))
def rd_half : DTS :=
  (dRet (dOp modD (dOp fdivD (dOp subD (dVar 0) (dC (.int 1))) (dC (.int 2))) (dC (.int 2))))
def halfI (u : Int) : Int := (u - 1) / 2 % 2
def sp_half : Lay.Spec := fun ds R => match ds with
  | [.int n] => R (.int (halfI n))
  | _ => False
theorem ok_half : ∀ ds R, sp_half ds R → rd_half (fnE R) (startE 1 ds) := by
  intro ds R h
  unfold sp_half at h
  split at h
  · unfold rd_half
    walk_at "dd"
    rw [fdiv_pos _ (by decide), fmod_pos _ (by decide)]
    exact ⟨divOk (by decide) (n := 3) (by decide) (by decide), by decide, h⟩
  · exact h.elim
theorem spx_half {n : Int} {R : D → Prop} : sp_half [.int n] R = R (.int (halfI n)) := rfl
local macro_rules | `(tactic| walk_at "d1") => `(tactic| try simp only [dSeq, dSkip, dPass, dRet, dRetN, dDrop, dCond, dAsg, gNm, gTp, dOwn, dOwnL, dPar, dAug, dApp, dExt, dFrz, dFor, dLc, dBreak, dCont, dVar, dC, dOp, dT, dIsi, dNeg, dNot, dTNot, dAnd, dOr, dTAnd, dTOr, dIf, dCh, dNil, dCons, dTup, dLst, dIxO, dB, dCall, dCallW, dItems, dRng1, dRng2, dYes, fnE, startE, startW, startS, dLenO, dLenS, dIxS, dSl, dPt, dNo, wipeE, addD_int, addD_str, addD_tup, addD_lst, subD_int, mulD_int, mulD_tup, mulD_lst, fdivD_int, modD_int, powD_int, shlD_int, shrD_int, andD_int, ltD_int, leD_int, gtD_int, geD_int, eqD_ap, neD_ap, isD_ap, isNotD_ap, isNon_none, isNon_int, isNon_bool, isNon_str, isNon_tup, isNon_lst, isInt_none, isInt_int, isInt_bool, isInt_str, isInt_tup, isInt_lst, isBool_none, isBool_int, isBool_bool, isBool_str, isBool_tup, isBool_lst, isStr_none, isStr_int, isStr_bool, isStr_str, isStr_tup, isStr_lst, isTup_none, isTup_int, isTup_bool, isTup_str, isTup_tup, isTup_lst, isLst_lst, Cnd_true, Cnd_false, Cnd_not, Cnd_dec, asB_bool, forall_const, true_implies, false_implies, implies_true, decide_true, decide_false, Classical.not_not, negD_int, notD_bool, onVal_val, onOwn_own, onDic_dic, onScr_scr, onWv_wv, onInt_int, onTup_tup, onLst_lst, onItems_lst, onItems_tup, frz1_own, frz1_val, frz1_un, ixD_lst, ixD_tup, ixL_int, optD_some, optI_some, absD_int, intD_int, intD_bool, lenD_lst, lenD_tup, lenD_str, tupleD_lst, tupleD_tup, listD_lst, listD_tup, min2D_int, max2D_int, sumD_ints, allD_bls, anyD_bls, slD_lst, slD_tup, slD_str, gNl_nil, gCs_cons, par2_two, seq1_lst, seq1_tup, rng1D_int, rng2D_int, gt_z, gt_s, sp_next_int, set_z, set_s, List.map_cons, List.map_nil, List.length_cons, List.length_nil, List.cons_append, List.nil_append, List.replicate, Nat.reduceAdd, Nat.reduceSub, Nat.zero_add, shaped_int, shaped_bool, shaped_none, shaped_listI, shaped_tupI, shaped_nilL, shaped_nilT, eqv_int, eqv_bool, eqv_str, eqv_none, eqv_list_nil, List.isEmpty_nil, List.isEmpty_cons, Bool.true_eq_false, Bool.false_eq_true, decide_eq_true_eq, and_self, true_and, and_true, not_dec, Bool.not_eq_true', decide_eq_false_iff_not, atI_0, atI_1, atI_2, ite_true, ite_false, if_true, if_false, reduceIte, Bool.not_true, Bool.not_false, not_true_eq_false, not_false_eq_true, List.set_cons_zero, List.set_cons_succ, dPar3, dRev, par3_three, sortedD_ints, revD_tup, two_nat, one_nat, three_nat, dCh3, dOwnC, dPutPar, putPar_two, dZip2, zip2D_lst, zip2D_tup, dPut, isBD_bl, isNotBD_bl, dNewO, dPutO, dSortedO, putKD_int, dPar3O, dParO2, par3O_two, parO2_one, minLD_lst, dKeysW, rdPairs_nil, rdPairs_cons, onPair_ii, revD_lst])
local macro_rules | `(tactic| walk_at "dd") => `(tactic| (walk_at "d1"; repeat (with_reducible (refine then_intro ?_); walk_at "d1")))
def rd_eighth : DTS :=
  (dRet (dB intD (dCons (dOp (inD false) (dOp modD (dVar 0) (dC (.int 8))) (dTup (dCons (dC (.int 3)) (dCons (dC (.int 5)) dNil)))) dNil)))
def eighthI (u : Int) : Int := if u % 8 = 3 ∨ u % 8 = 5 then 1 else 0
def sp_eighth : Lay.Spec := fun ds R => match ds with
  | [.int n] => R (.int (eighthI n))
  | _ => False
theorem ok_eighth : ∀ ds R, sp_eighth ds R → rd_eighth (fnE R) (startE 1 ds) := by
  intro ds R h
  unfold sp_eighth eighthI at h
  split at h
  · rename_i n
    unfold rd_eighth
    walk_at "dd"
    rw [fmod_pos _ (by decide)]
    refine ⟨by decide, in_tup [3, 5] ?_⟩
    have hm : (n % 8 ∈ ([3, 5] : List Int)) ↔ (n % 8 = 3 ∨ n % 8 = 5) := by simp
    by_cases z : n % 8 = 3 ∨ n % 8 = 5
    · rw [if_pos z] at h
      rw [decide_eq_true (hm.mpr z)]
      exact h
    · rw [if_neg z] at h
      rw [decide_eq_false (fun w => z (hm.mp w))]
      exact h
  · exact h.elim
theorem spx_eighth {n : Int} {R : D → Prop} : sp_eighth [.int n] R = R (.int (eighthI n)) := rfl
local macro_rules | `(tactic| walk_at "d1") => `(tactic| try simp only [dSeq, dSkip, dPass, dRet, dRetN, dDrop, dCond, dAsg, gNm, gTp, dOwn, dOwnL, dPar, dAug, dApp, dExt, dFrz, dFor, dLc, dBreak, dCont, dVar, dC, dOp, dT, dIsi, dNeg, dNot, dTNot, dAnd, dOr, dTAnd, dTOr, dIf, dCh, dNil, dCons, dTup, dLst, dIxO, dB, dCall, dCallW, dItems, dRng1, dRng2, dYes, fnE, startE, startW, startS, dLenO, dLenS, dIxS, dSl, dPt, dNo, wipeE, addD_int, addD_str, addD_tup, addD_lst, subD_int, mulD_int, mulD_tup, mulD_lst, fdivD_int, modD_int, powD_int, shlD_int, shrD_int, andD_int, ltD_int, leD_int, gtD_int, geD_int, eqD_ap, neD_ap, isD_ap, isNotD_ap, isNon_none, isNon_int, isNon_bool, isNon_str, isNon_tup, isNon_lst, isInt_none, isInt_int, isInt_bool, isInt_str, isInt_tup, isInt_lst, isBool_none, isBool_int, isBool_bool, isBool_str, isBool_tup, isBool_lst, isStr_none, isStr_int, isStr_bool, isStr_str, isStr_tup, isStr_lst, isTup_none, isTup_int, isTup_bool, isTup_str, isTup_tup, isTup_lst, isLst_lst, Cnd_true, Cnd_false, Cnd_not, Cnd_dec, asB_bool, forall_const, true_implies, false_implies, implies_true, decide_true, decide_false, Classical.not_not, negD_int, notD_bool, onVal_val, onOwn_own, onDic_dic, onScr_scr, onWv_wv, onInt_int, onTup_tup, onLst_lst, onItems_lst, onItems_tup, frz1_own, frz1_val, frz1_un, ixD_lst, ixD_tup, ixL_int, optD_some, optI_some, absD_int, intD_int, intD_bool, lenD_lst, lenD_tup, lenD_str, tupleD_lst, tupleD_tup, listD_lst, listD_tup, min2D_int, max2D_int, sumD_ints, allD_bls, anyD_bls, slD_lst, slD_tup, slD_str, gNl_nil, gCs_cons, par2_two, seq1_lst, seq1_tup, rng1D_int, rng2D_int, gt_z, gt_s, sp_next_int, set_z, set_s, List.map_cons, List.map_nil, List.length_cons, List.length_nil, List.cons_append, List.nil_append, List.replicate, Nat.reduceAdd, Nat.reduceSub, Nat.zero_add, shaped_int, shaped_bool, shaped_none, shaped_listI, shaped_tupI, shaped_nilL, shaped_nilT, eqv_int, eqv_bool, eqv_str, eqv_none, eqv_list_nil, List.isEmpty_nil, List.isEmpty_cons, Bool.true_eq_false, Bool.false_eq_true, decide_eq_true_eq, and_self, true_and, and_true, not_dec, Bool.not_eq_true', decide_eq_false_iff_not, atI_0, atI_1, atI_2, ite_true, ite_false, if_true, if_false, reduceIte, Bool.not_true, Bool.not_false, not_true_eq_false, not_false_eq_true, List.set_cons_zero, List.set_cons_succ, dPar3, dRev, par3_three, sortedD_ints, revD_tup, two_nat, one_nat, three_nat, dCh3, dOwnC, dPutPar, putPar_two, dZip2, zip2D_lst, zip2D_tup, dPut, isBD_bl, isNotBD_bl, dNewO, dPutO, dSortedO, putKD_int, dPar3O, dParO2, par3O_two, parO2_one, minLD_lst, dKeysW, rdPairs_nil, rdPairs_cons, onPair_ii, revD_lst])
local macro_rules | `(tactic| walk_at "dd") => `(tactic| (walk_at "d1"; repeat (with_reducible (refine then_intro ?_); walk_at "d1")))
def rd_size_of_b1 : DTS :=
  (dSeq (dAsg (dOp fdivD (dVar 0) (dVar 1)) (gNm 0)) (dAug 2 (fun i j => i + j) (dC (.int 1))))
def rd_size_of : DTS :=
  (dSeq (dAsg (dC (.int 0)) (gNm 2)) (dSeq (dWhile (dT (dOp eqD (dOp modD (dVar 0) (dVar 1)) (dC (.int 0)))) rd_size_of_b1) (dRet (dTup (dCons (dVar 2) (dCons (dVar 0) dNil))))))
def sp_size_of : Lay.Spec := fun ds R => match ds with
  | [.int n, .int p] => (n ≠ 0 ∧ 2 ≤ p ∧ ∃ k : Nat, k ≤ 4000 ∧ p.natAbs < 2 ^ k) ∧ R (.tuple [.int (tkI p.toNat n).2, .int (tkI p.toNat n).1])
  | _ => False
theorem ok_size_of : ∀ ds R, sp_size_of ds R → rd_size_of (fnE R) (startE 3 ds) := by
  intro ds R h
  unfold sp_size_of at h
  split at h
  · rename_i n p
    obtain ⟨⟨n0, hp, k, hk, hb⟩, h⟩ := h
    obtain ⟨p, rfl⟩ : ∃ q : Nat, p = (q : Int) := ⟨p.toNat, by omega⟩
    rw [Int.toNat_natCast] at h
    have hp' : 2 ≤ p := by omega
    unfold rd_size_of
    walk_at "dd"
    refine while_by (fun (s : Int × Nat) => [.val (.int s.1), .val (.int p), .val (.int s.2)]) (fun s => s.1 ≠ 0 ∧ (tkI p s.1).1 = (tkI p n).1 ∧ (tkI p s.1).2 + s.2 = (tkI p n).2) (fun s => s.1.natAbs) (n, 0) rfl ⟨n0, rfl, rfl⟩ ?_
    rintro ⟨m, c⟩ ⟨m0, h1, h2⟩ bk
    simp only at m0 h1 h2
    walk_at "dd"
    rw [fmod_pos _ (by omega)]
    refine ⟨by omega, fun e => ?_, fun e => ?_⟩
    · obtain ⟨d1, d2, d3⟩ := tkI_div hp' m0 (Int.dvd_of_emod_eq_zero e)
      rw [d1] at h1 h2
      unfold rd_size_of_b1
      walk_at "dd"
      rw [fdiv_pos _ (by omega : (0 : Int) < p)]
      refine ⟨divOk (by omega) hb (by omega), (m / p, c + 1), rfl, ⟨d2, h1, ?_⟩, d3⟩
      have : (tkI p (m / p)).2 + 1 + c = (tkI p n).2 := h2
      show (tkI p (m / p)).2 + (c + 1) = _
      omega
    · rw [tkI_none (fun z => e (Int.emod_eq_zero_of_dvd z))] at h1 h2
      walk_at "dd"
      rw [show m = (tkI p n).1 from h1, show c = (tkI p n).2 by omega]
      exact h
  · exact h.elim
theorem spx_size_of {n p : Int} {R : D → Prop} : sp_size_of [.int n, .int p] R = ((n ≠ 0 ∧ 2 ≤ p ∧ ∃ k : Nat, k ≤ 4000 ∧ p.natAbs < 2 ^ k) ∧ R (.tuple [.int (tkI p.toNat n).2, .int (tkI p.toNat n).1])) := rfl
local macro_rules | `(tactic| walk_at "d1") => `(tactic| try simp only [dSeq, dSkip, dPass, dRet, dRetN, dDrop, dCond, dAsg, gNm, gTp, dOwn, dOwnL, dPar, dAug, dApp, dExt, dFrz, dFor, dLc, dBreak, dCont, dVar, dC, dOp, dT, dIsi, dNeg, dNot, dTNot, dAnd, dOr, dTAnd, dTOr, dIf, dCh, dNil, dCons, dTup, dLst, dIxO, dB, dCall, dCallW, dItems, dRng1, dRng2, dYes, fnE, startE, startW, startS, dLenO, dLenS, dIxS, dSl, dPt, dNo, wipeE, addD_int, addD_str, addD_tup, addD_lst, subD_int, mulD_int, mulD_tup, mulD_lst, fdivD_int, modD_int, powD_int, shlD_int, shrD_int, andD_int, ltD_int, leD_int, gtD_int, geD_int, eqD_ap, neD_ap, isD_ap, isNotD_ap, isNon_none, isNon_int, isNon_bool, isNon_str, isNon_tup, isNon_lst, isInt_none, isInt_int, isInt_bool, isInt_str, isInt_tup, isInt_lst, isBool_none, isBool_int, isBool_bool, isBool_str, isBool_tup, isBool_lst, isStr_none, isStr_int, isStr_bool, isStr_str, isStr_tup, isStr_lst, isTup_none, isTup_int, isTup_bool, isTup_str, isTup_tup, isTup_lst, isLst_lst, Cnd_true, Cnd_false, Cnd_not, Cnd_dec, asB_bool, forall_const, true_implies, false_implies, implies_true, decide_true, decide_false, Classical.not_not, negD_int, notD_bool, onVal_val, onOwn_own, onDic_dic, onScr_scr, onWv_wv, onInt_int, onTup_tup, onLst_lst, onItems_lst, onItems_tup, frz1_own, frz1_val, frz1_un, ixD_lst, ixD_tup, ixL_int, optD_some, optI_some, absD_int, intD_int, intD_bool, lenD_lst, lenD_tup, lenD_str, tupleD_lst, tupleD_tup, listD_lst, listD_tup, min2D_int, max2D_int, sumD_ints, allD_bls, anyD_bls, slD_lst, slD_tup, slD_str, gNl_nil, gCs_cons, par2_two, seq1_lst, seq1_tup, rng1D_int, rng2D_int, gt_z, gt_s, sp_next_int, set_z, set_s, List.map_cons, List.map_nil, List.length_cons, List.length_nil, List.cons_append, List.nil_append, List.replicate, Nat.reduceAdd, Nat.reduceSub, Nat.zero_add, shaped_int, shaped_bool, shaped_none, shaped_listI, shaped_tupI, shaped_nilL, shaped_nilT, eqv_int, eqv_bool, eqv_str, eqv_none, eqv_list_nil, List.isEmpty_nil, List.isEmpty_cons, Bool.true_eq_false, Bool.false_eq_true, decide_eq_true_eq, and_self, true_and, and_true, not_dec, Bool.not_eq_true', decide_eq_false_iff_not, atI_0, atI_1, atI_2, ite_true, ite_false, if_true, if_false, reduceIte, Bool.not_true, Bool.not_false, not_true_eq_false, not_false_eq_true, List.set_cons_zero, List.set_cons_succ, dPar3, dRev, par3_three, sortedD_ints, revD_tup, two_nat, one_nat, three_nat, dCh3, dOwnC, dPutPar, putPar_two, dZip2, zip2D_lst, zip2D_tup, dPut, isBD_bl, isNotBD_bl, dNewO, dPutO, dSortedO, putKD_int, dPar3O, dParO2, par3O_two, parO2_one, minLD_lst, dKeysW, rdPairs_nil, rdPairs_cons, onPair_ii, revD_lst])
local macro_rules | `(tactic| walk_at "dd") => `(tactic| (walk_at "d1"; repeat (with_reducible (refine then_intro ?_); walk_at "d1")))
def rd_without_twos_b1 : DTS :=
  (dSeq (dAsg (dOp fdivD (dVar 0) (dC (.int 2))) (gNm 0)) (dAug 1 (fun i j => i + j) (dC (.int 1))))
def rd_without_twos : DTS :=
  (dSeq (dAsg (dC (.int 0)) (gNm 1)) (dSeq (dWhile (dTAnd (dT (dOp neD (dVar 0) (dC (.int 0)))) (dT (dOp eqD (dOp modD (dVar 0) (dC (.int 2))) (dC (.int 0))))) rd_without_twos_b1) (dRet (dTup (dCons (dVar 0) (dCons (dVar 1) dNil))))))
def sp_without_twos : Lay.Spec := fun ds R => match ds with
  | [.int a] => 0 ≤ a ∧ R (.tuple [.int (strip a.toNat).1, .int (strip a.toNat).2])
  | _ => False
theorem ok_without_twos : ∀ ds R, sp_without_twos ds R → rd_without_twos (fnE R) (startE 2 ds) := by
  intro ds R h
  unfold sp_without_twos at h
  split at h
  · rename_i a
    obtain ⟨h0, h⟩ := h
    unfold rd_without_twos
    walk_at "dd"
    refine while_by (fun (s : Nat × Nat) => [.val (.int s.1), .val (.int s.2)]) (fun s => (strip s.1).1 = (strip a.toNat).1 ∧ (strip s.1).2 + s.2 = (strip a.toNat).2) (fun s => s.1) (a.toNat, 0) (by rw [show ((a.toNat : Nat) : Int) = a by omega]; rfl) ⟨rfl, rfl⟩ ?_
    rintro ⟨x, y⟩ ⟨hx, hy⟩ bk
    simp only at hx hy
    have done : ¬ (x ≠ 0 ∧ x % 2 = 0) → R (.tuple [.int x, .int y]) := fun z => by
      rw [strip_odd z] at hx hy
      rw [show x = (strip a.toNat).1 from hx, show y = (strip a.toNat).2 by omega]
      exact h
    have ef : (x : Int).fmod 2 = ((x % 2 : Nat) : Int) := by rw [fmod_pos _ (by decide)]; omega
    walk_at "dd"
    refine ⟨fun z => ?_, fun z => ⟨by decide, fun e => ?_, fun e => ?_⟩⟩
    · walk_at "dd"
      exact done (by omega)
    · rw [ef] at e
      unfold rd_without_twos_b1
      walk_at "dd"
      refine ⟨divOk (by decide) (n := 2) (by decide) (by decide), (x / 2, y + 1), ?_, ?_, ?_⟩
      · rw [fdiv_pos _ (by decide : (0 : Int) < 2)]
        rfl
      · rw [strip_even (by omega) (by omega)] at hx hy
        exact ⟨hx, by have : (strip (x / 2)).2 + 1 + y = (strip a.toNat).2 := hy; show (strip (x / 2)).2 + (y + 1) = _; omega⟩
      · show x / 2 < x
        omega
    · rw [ef] at e
      walk_at "dd"
      exact done (by omega)
  · exact h.elim
theorem spx_without_twos {a : Int} {R : D → Prop} : sp_without_twos [.int a] R = (0 ≤ a ∧ R (.tuple [.int (strip a.toNat).1, .int (strip a.toNat).2])) := rfl
local macro_rules | `(tactic| walk_at "d1") => `(tactic| try simp only [dSeq, dSkip, dPass, dRet, dRetN, dDrop, dCond, dAsg, gNm, gTp, dOwn, dOwnL, dPar, dAug, dApp, dExt, dFrz, dFor, dLc, dBreak, dCont, dVar, dC, dOp, dT, dIsi, dNeg, dNot, dTNot, dAnd, dOr, dTAnd, dTOr, dIf, dCh, dNil, dCons, dTup, dLst, dIxO, dB, dCall, dCallW, dItems, dRng1, dRng2, dYes, fnE, startE, startW, startS, dLenO, dLenS, dIxS, dSl, dPt, dNo, wipeE, addD_int, addD_str, addD_tup, addD_lst, subD_int, mulD_int, mulD_tup, mulD_lst, fdivD_int, modD_int, powD_int, shlD_int, shrD_int, andD_int, ltD_int, leD_int, gtD_int, geD_int, eqD_ap, neD_ap, isD_ap, isNotD_ap, isNon_none, isNon_int, isNon_bool, isNon_str, isNon_tup, isNon_lst, isInt_none, isInt_int, isInt_bool, isInt_str, isInt_tup, isInt_lst, isBool_none, isBool_int, isBool_bool, isBool_str, isBool_tup, isBool_lst, isStr_none, isStr_int, isStr_bool, isStr_str, isStr_tup, isStr_lst, isTup_none, isTup_int, isTup_bool, isTup_str, isTup_tup, isTup_lst, isLst_lst, Cnd_true, Cnd_false, Cnd_not, Cnd_dec, asB_bool, forall_const, true_implies, false_implies, implies_true, decide_true, decide_false, Classical.not_not, negD_int, notD_bool, onVal_val, onOwn_own, onDic_dic, onScr_scr, onWv_wv, onInt_int, onTup_tup, onLst_lst, onItems_lst, onItems_tup, frz1_own, frz1_val, frz1_un, ixD_lst, ixD_tup, ixL_int, optD_some, optI_some, absD_int, intD_int, intD_bool, lenD_lst, lenD_tup, lenD_str, tupleD_lst, tupleD_tup, listD_lst, listD_tup, min2D_int, max2D_int, sumD_ints, allD_bls, anyD_bls, slD_lst, slD_tup, slD_str, gNl_nil, gCs_cons, par2_two, seq1_lst, seq1_tup, rng1D_int, rng2D_int, gt_z, gt_s, sp_next_int, set_z, set_s, List.map_cons, List.map_nil, List.length_cons, List.length_nil, List.cons_append, List.nil_append, List.replicate, Nat.reduceAdd, Nat.reduceSub, Nat.zero_add, shaped_int, shaped_bool, shaped_none, shaped_listI, shaped_tupI, shaped_nilL, shaped_nilT, eqv_int, eqv_bool, eqv_str, eqv_none, eqv_list_nil, List.isEmpty_nil, List.isEmpty_cons, Bool.true_eq_false, Bool.false_eq_true, decide_eq_true_eq, and_self, true_and, and_true, not_dec, Bool.not_eq_true', decide_eq_false_iff_not, atI_0, atI_1, atI_2, ite_true, ite_false, if_true, if_false, reduceIte, Bool.not_true, Bool.not_false, not_true_eq_false, not_false_eq_true, List.set_cons_zero, List.set_cons_succ, dPar3, dRev, par3_three, sortedD_ints, revD_tup, two_nat, one_nat, three_nat, dCh3, dOwnC, dPutPar, putPar_two, dZip2, zip2D_lst, zip2D_tup, dPut, isBD_bl, isNotBD_bl, dNewO, dPutO, dSortedO, putKD_int, dPar3O, dParO2, par3O_two, parO2_one, minLD_lst, dKeysW, rdPairs_nil, rdPairs_cons, onPair_ii, revD_lst, spx_without_twos])
local macro_rules | `(tactic| walk_at "dd") => `(tactic| (walk_at "d1"; repeat (with_reducible (refine then_intro ?_); walk_at "d1")))
def rd_mark_of_c1 : DTS :=
  (dSeq (dCond (dTAnd (dT (dOp eqD (dOp modD (dVar 0) (dC (.int 4))) (dC (.int 3)))) (dT (dOp eqD (dOp modD (dVar 1) (dC (.int 4))) (dC (.int 3))))) (dAsg (dNeg (dVar 2)) (gNm 2)) dSkip) (dPar 0 1 (dCons (dOp modD (dVar 1) (dVar 0)) (dCons (dVar 0) dNil))))
def rd_mark_of_b1 : DTS :=
  (dSeq (dAsg (dCall sp_without_twos (dCons (dVar 0) dNil)) (gTp 2 (gCs (gNm 0) (gCs (gNm 3) gNl)))) (dSeq (dCond (dTAnd (dT (dOp eqD (dOp modD (dVar 3) (dC (.int 2))) (dC (.int 1)))) (dT (dOp (inD false) (dOp modD (dVar 1) (dC (.int 8))) (dTup (dCons (dC (.int 3)) (dCons (dC (.int 5)) dNil)))))) (dAsg (dNeg (dVar 2)) (gNm 2)) dSkip) rd_mark_of_c1))
def rd_mark_of : DTS :=
  (dSeq (dAsg (dOp modD (dVar 0) (dVar 1)) (gNm 0)) (dSeq (dAsg (dC (.int 1)) (gNm 2)) (dSeq (dWhile (dT (dOp neD (dVar 0) (dC (.int 0)))) rd_mark_of_b1) (dRet (dIf (dT (dOp eqD (dVar 1) (dC (.int 1)))) (dVar 2) (dC (.int 0)))))))
def sp_mark_of : Lay.Spec := fun ds R => match ds with
  | [.int a, .int n] => 0 < n ∧ R (.int (jac (a % n).toNat n.toNat))
  | _ => False
theorem mark_c1 {K : DEnds} {b n t : Nat} {s : Int} (hb : b ≠ 0) (hK : K.nx [.val (.int ((n % b : Nat) : Int)), .val (.int b), .val (.int (s * swapSign b n)), .val (.int t)]) : rd_mark_of_c1 K [.val (.int b), .val (.int n), .val (.int s), .val (.int t)] := by
  have e4 : ∀ x : Nat, (x : Int).fmod 4 = ((x % 4 : Nat) : Int) := fun x => nat_fmod x 4 (by decide)
  have fin : ∀ s' : Int, s' = s * swapSign b n → K.nx [.val (.int ((n : Int).fmod b)), .val (.int b), .val (.int s'), .val (.int t)] := fun s' e => by
    rw [e, nat_fmod _ _ (by omega)]; exact hK
  have no : ¬ (b % 4 = 3 ∧ n % 4 = 3) → s = s * swapSign b n := fun z => by rw [swapSign, if_neg z, Int.mul_one]
  have yes : b % 4 = 3 ∧ n % 4 = 3 → -s = s * swapSign b n := fun z => by rw [swapSign, if_pos z]; omega
  have hb' : ¬ (b : Int) = 0 := by omega
  unfold rd_mark_of_c1
  walk_at "dd"
  rw [e4]
  refine ⟨by decide, fun z => ⟨by decide, fun z2 => ?_, fun z2 => ?_⟩, fun z => ?_⟩
  · rw [e4] at z2
    walk_at "dd"
    exact ⟨hb', fin _ (yes (by omega))⟩
  · rw [e4] at z2
    walk_at "dd"
    exact ⟨hb', fin _ (no (by omega))⟩
  · walk_at "dd"
    exact ⟨hb', fin _ (no (by omega))⟩
theorem ok_mark_of : ∀ ds R, sp_mark_of ds R → rd_mark_of (fnE R) (startE 4 ds) := by
  intro ds R h
  unfold sp_mark_of at h
  split at h
  · rename_i A N
    obtain ⟨h0, h⟩ := h
    unfold rd_mark_of
    walk_at "dd"
    refine ⟨by omega, ?_⟩
    rw [fmod_pos _ h0]
    have m0 := Int.emod_nonneg A (show N ≠ 0 by omega)
    refine while_by (fun (s : Nat × Nat × Int × Sl) => [.val (.int s.1), .val (.int s.2.1), .val (.int s.2.2.1), s.2.2.2]) (fun s => 0 < s.2.1 ∧ s.2.2.1 * jac s.1 s.2.1 = jac (A % N).toNat N.toNat) (fun s => s.1) ((A % N).toNat, N.toNat, 1, .un)
      (by rw [show (((A % N).toNat : Nat) : Int) = A % N by omega, show ((N.toNat : Nat) : Int) = N by omega]; rfl) ⟨by show 0 < N.toNat; omega, by rw [Int.one_mul]⟩ ?_
    rintro ⟨x, n, s, u⟩ ⟨hn, hj⟩ bk
    simp only at hn hj
    walk_at "dd"
    refine ⟨fun z => ?_, fun z => ?_⟩
    · walk_at "dd"
      have z' : x = 0 := by omega
      subst z'
      rw [jac_zero] at hj
      rw [← hj] at h
      refine ⟨fun e => ?_, fun e => ?_⟩
      · rw [if_pos (by omega), Int.mul_one] at h
        exact h
      · rw [if_neg (by omega), Int.mul_zero] at h
        exact h
    · unfold rd_mark_of_b1
      walk_at "dd"
      have hx : x ≠ 0 := by omega
      have hb : (strip x).1 ≠ 0 := fun z => hx (strip_zero.mp z)
      refine ⟨by omega, ?_⟩
      rw [show ((x : Int)).toNat = x from Int.toNat_natCast x]
      walk_at "dd"
      rw [jac_step hx] at hj
      have e2 : ((strip x).2 : Int).fmod 2 = (((strip x).2 % 2 : Nat) : Int) := nat_fmod _ 2 (by decide)
      have e8 : (n : Int).fmod 8 = ((n % 8 : Nat) : Int) := nat_fmod _ 8 (by decide)
      have fin : ∀ s', s' = s * twoSign (strip x).2 n → rd_mark_of_c1 { nx := fun en' => ∃ a' : Nat × Nat × Int × Sl, en' = [.val (.int a'.1), .val (.int a'.2.1), .val (.int a'.2.2.1), a'.2.2.2] ∧ (0 < a'.2.1 ∧ a'.2.2.1 * jac a'.1 a'.2.1 = jac (A % N).toNat N.toNat) ∧ a'.1 < x, rt := R, bk := bk, ct := fun en' => ∃ a' : Nat × Nat × Int × Sl, en' = [.val (.int a'.1), .val (.int a'.2.1), .val (.int a'.2.2.1), a'.2.2.2] ∧ (0 < a'.2.1 ∧ a'.2.2.1 * jac a'.1 a'.2.1 = jac (A % N).toNat N.toNat) ∧ a'.1 < x }
          [.val (.int (strip x).1), .val (.int n), .val (.int s'), .val (.int (strip x).2)] := fun s' e => by
        refine mark_c1 hb ⟨(n % (strip x).1, (strip x).1, _, _), rfl, ⟨by show 0 < (strip x).1; omega, ?_⟩, Nat.lt_of_lt_of_le (Nat.mod_lt _ (by omega)) (strip_le x)⟩
        rw [← hj, e]
        grind
      rw [e2]
      refine ⟨by decide, fun z => ⟨by decide, in_tup [3, 5] ?_⟩, fun z => ?_⟩
      · rw [e8]
        walk_at "dd"
        refine ⟨fun z2 => ?_, fun z2 => ?_⟩
        · walk_at "dd"
          refine then_intro (fin _ ?_)
          rw [twoSign, if_pos (by simp only [List.mem_cons, List.not_mem_nil, or_false] at z2; omega)]; omega
        · walk_at "dd"
          refine then_intro (fin _ ?_)
          rw [twoSign, if_neg (by simp only [List.mem_cons, List.not_mem_nil, or_false] at z2; omega)]; omega
      · walk_at "dd"
        refine then_intro (fin _ ?_)
        rw [twoSign, if_neg (by omega)]; omega
  · exact h.elim
local macro_rules | `(tactic| walk_at "d1") => `(tactic| try simp only [dSeq, dSkip, dPass, dRet, dRetN, dDrop, dCond, dAsg, gNm, gTp, dOwn, dOwnL, dPar, dAug, dApp, dExt, dFrz, dFor, dLc, dBreak, dCont, dVar, dC, dOp, dT, dIsi, dNeg, dNot, dTNot, dAnd, dOr, dTAnd, dTOr, dIf, dCh, dNil, dCons, dTup, dLst, dIxO, dB, dCall, dCallW, dItems, dRng1, dRng2, dYes, fnE, startE, startW, startS, dLenO, dLenS, dIxS, dSl, dPt, dNo, wipeE, addD_int, addD_str, addD_tup, addD_lst, subD_int, mulD_int, mulD_tup, mulD_lst, fdivD_int, modD_int, powD_int, shlD_int, shrD_int, andD_int, ltD_int, leD_int, gtD_int, geD_int, eqD_ap, neD_ap, isD_ap, isNotD_ap, isNon_none, isNon_int, isNon_bool, isNon_str, isNon_tup, isNon_lst, isInt_none, isInt_int, isInt_bool, isInt_str, isInt_tup, isInt_lst, isBool_none, isBool_int, isBool_bool, isBool_str, isBool_tup, isBool_lst, isStr_none, isStr_int, isStr_bool, isStr_str, isStr_tup, isStr_lst, isTup_none, isTup_int, isTup_bool, isTup_str, isTup_tup, isTup_lst, isLst_lst, Cnd_true, Cnd_false, Cnd_not, Cnd_dec, asB_bool, forall_const, true_implies, false_implies, implies_true, decide_true, decide_false, Classical.not_not, negD_int, notD_bool, onVal_val, onOwn_own, onDic_dic, onScr_scr, onWv_wv, onInt_int, onTup_tup, onLst_lst, onItems_lst, onItems_tup, frz1_own, frz1_val, frz1_un, ixD_lst, ixD_tup, ixL_int, optD_some, optI_some, absD_int, intD_int, intD_bool, lenD_lst, lenD_tup, lenD_str, tupleD_lst, tupleD_tup, listD_lst, listD_tup, min2D_int, max2D_int, sumD_ints, allD_bls, anyD_bls, slD_lst, slD_tup, slD_str, gNl_nil, gCs_cons, par2_two, seq1_lst, seq1_tup, rng1D_int, rng2D_int, gt_z, gt_s, sp_next_int, set_z, set_s, List.map_cons, List.map_nil, List.length_cons, List.length_nil, List.cons_append, List.nil_append, List.replicate, Nat.reduceAdd, Nat.reduceSub, Nat.zero_add, shaped_int, shaped_bool, shaped_none, shaped_listI, shaped_tupI, shaped_nilL, shaped_nilT, eqv_int, eqv_bool, eqv_str, eqv_none, eqv_list_nil, List.isEmpty_nil, List.isEmpty_cons, Bool.true_eq_false, Bool.false_eq_true, decide_eq_true_eq, and_self, true_and, and_true, not_dec, Bool.not_eq_true', decide_eq_false_iff_not, atI_0, atI_1, atI_2, ite_true, ite_false, if_true, if_false, reduceIte, Bool.not_true, Bool.not_false, not_true_eq_false, not_false_eq_true, List.set_cons_zero, List.set_cons_succ, dPar3, dRev, par3_three, sortedD_ints, revD_tup, two_nat, one_nat, three_nat, dCh3, dOwnC, dPutPar, putPar_two, dZip2, zip2D_lst, zip2D_tup, dPut, isBD_bl, isNotBD_bl, dNewO, dPutO, dSortedO, putKD_int, dPar3O, dParO2, par3O_two, parO2_one, minLD_lst, dKeysW, rdPairs_nil, rdPairs_cons, onPair_ii, revD_lst, spx_without_twos])
local macro_rules | `(tactic| walk_at "dd") => `(tactic| (walk_at "d1"; repeat (with_reducible (refine then_intro ?_); walk_at "d1")))
theorem mark_leg {a : Int} {p : Nat} {R : D → Prop} (hp : OddP p) (h : R (.int (leg p a))) : sp_mark_of [.int a, .int p] R := by
  have h3 := hp.three
  refine ⟨by omega, ?_⟩
  rw [← markN_prime hp] at h
  exact h
theorem mark_of_any {a n : Int} {R : D → Prop} (h : R (.int (markN n.toNat a))) (h0 : 0 < n) : sp_mark_of [.int a, .int n] R := by
  refine ⟨h0, ?_⟩
  have e : markN n.toNat a = jac (a % n).toNat n.toNat := by
    unfold markN
    rw [Int.toNat_of_nonneg (by omega)]
  rw [← e]
  exact h
local macro_rules | `(tactic| walk_at "d1") => `(tactic| try simp only [dSeq, dSkip, dPass, dRet, dRetN, dDrop, dCond, dAsg, gNm, gTp, dOwn, dOwnL, dPar, dAug, dApp, dExt, dFrz, dFor, dLc, dBreak, dCont, dVar, dC, dOp, dT, dIsi, dNeg, dNot, dTNot, dAnd, dOr, dTAnd, dTOr, dIf, dCh, dNil, dCons, dTup, dLst, dIxO, dB, dCall, dCallW, dItems, dRng1, dRng2, dYes, fnE, startE, startW, startS, dLenO, dLenS, dIxS, dSl, dPt, dNo, wipeE, addD_int, addD_str, addD_tup, addD_lst, subD_int, mulD_int, mulD_tup, mulD_lst, fdivD_int, modD_int, powD_int, shlD_int, shrD_int, andD_int, ltD_int, leD_int, gtD_int, geD_int, eqD_ap, neD_ap, isD_ap, isNotD_ap, isNon_none, isNon_int, isNon_bool, isNon_str, isNon_tup, isNon_lst, isInt_none, isInt_int, isInt_bool, isInt_str, isInt_tup, isInt_lst, isBool_none, isBool_int, isBool_bool, isBool_str, isBool_tup, isBool_lst, isStr_none, isStr_int, isStr_bool, isStr_str, isStr_tup, isStr_lst, isTup_none, isTup_int, isTup_bool, isTup_str, isTup_tup, isTup_lst, isLst_lst, Cnd_true, Cnd_false, Cnd_not, Cnd_dec, asB_bool, forall_const, true_implies, false_implies, implies_true, decide_true, decide_false, Classical.not_not, negD_int, notD_bool, onVal_val, onOwn_own, onDic_dic, onScr_scr, onWv_wv, onInt_int, onTup_tup, onLst_lst, onItems_lst, onItems_tup, frz1_own, frz1_val, frz1_un, ixD_lst, ixD_tup, ixL_int, optD_some, optI_some, absD_int, intD_int, intD_bool, lenD_lst, lenD_tup, lenD_str, tupleD_lst, tupleD_tup, listD_lst, listD_tup, min2D_int, max2D_int, sumD_ints, allD_bls, anyD_bls, slD_lst, slD_tup, slD_str, gNl_nil, gCs_cons, par2_two, seq1_lst, seq1_tup, rng1D_int, rng2D_int, gt_z, gt_s, sp_next_int, set_z, set_s, List.map_cons, List.map_nil, List.length_cons, List.length_nil, List.cons_append, List.nil_append, List.replicate, Nat.reduceAdd, Nat.reduceSub, Nat.zero_add, shaped_int, shaped_bool, shaped_none, shaped_listI, shaped_tupI, shaped_nilL, shaped_nilT, eqv_int, eqv_bool, eqv_str, eqv_none, eqv_list_nil, List.isEmpty_nil, List.isEmpty_cons, Bool.true_eq_false, Bool.false_eq_true, decide_eq_true_eq, and_self, true_and, and_true, not_dec, Bool.not_eq_true', decide_eq_false_iff_not, atI_0, atI_1, atI_2, ite_true, ite_false, if_true, if_false, reduceIte, Bool.not_true, Bool.not_false, not_true_eq_false, not_false_eq_true, List.set_cons_zero, List.set_cons_succ, dPar3, dRev, par3_three, sortedD_ints, revD_tup, two_nat, one_nat, three_nat, dCh3, dOwnC, dPutPar, putPar_two, dZip2, zip2D_lst, zip2D_tup, dPut, isBD_bl, isNotBD_bl, dNewO, dPutO, dSortedO, putKD_int, dPar3O, dParO2, par3O_two, parO2_one, minLD_lst, dKeysW, rdPairs_nil, rdPairs_cons, onPair_ii, revD_lst, spx_half, spx_eighth, spx_size_of, spx_without_twos])
local macro_rules | `(tactic| walk_at "dd") => `(tactic| (walk_at "d1"; repeat (with_reducible (refine then_intro ?_); walk_at "d1")))
def rd_mark : DTS :=
  (dSeq (dCond (dT (dOp eqD (dVar 2) (dC (.int 0)))) (dRet (dIf (dTAnd (dT (dOp ltD (dVar 0) (dC (.int 0)))) (dT (dOp ltD (dVar 1) (dC (.int 0))))) (dNeg (dC (.int 1))) (dC (.int 1)))) dSkip) (dSeq (dAsg (dCall sp_size_of (dCons (dVar 0) (dCons (dVar 2) dNil))) (gTp 2 (gCs (gNm 3) (gCs (gNm 4) gNl)))) (dSeq (dAsg (dCall sp_size_of (dCons (dVar 1) (dCons (dVar 2) dNil))) (gTp 2 (gCs (gNm 5) (gCs (gNm 6) gNl)))) (dSeq (dCond (dT (dOp eqD (dVar 2) (dC (.int 2)))) (dRet (dIf (dT (dOp eqD (dOp modD (dOp addD (dOp addD (dOp mulD (dCall sp_half (dCons (dVar 4) dNil)) (dCall sp_half (dCons (dVar 6) dNil))) (dOp mulD (dVar 3) (dCall sp_eighth (dCons (dVar 6) dNil)))) (dOp mulD (dVar 5) (dCall sp_eighth (dCons (dVar 4) dNil)))) (dC (.int 2))) (dC (.int 0)))) (dC (.int 1)) (dNeg (dC (.int 1))))) dSkip) (dSeq (dAsg (dIf (dTAnd (dT (dOp eqD (dOp modD (dVar 3) (dC (.int 2))) (dC (.int 1)))) (dTAnd (dT (dOp eqD (dOp modD (dVar 5) (dC (.int 2))) (dC (.int 1)))) (dT (dOp eqD (dOp modD (dVar 2) (dC (.int 4))) (dC (.int 3)))))) (dNeg (dC (.int 1))) (dC (.int 1))) (gNm 7)) (dSeq (dCond (dT (dOp eqD (dOp modD (dVar 5) (dC (.int 2))) (dC (.int 1)))) (dAsg (dOp mulD (dVar 7) (dCall sp_mark_of (dCons (dVar 4) (dCons (dVar 2) dNil)))) (gNm 7)) dSkip) (dSeq (dCond (dT (dOp eqD (dOp modD (dVar 3) (dC (.int 2))) (dC (.int 1)))) (dAsg (dOp mulD (dVar 7) (dCall sp_mark_of (dCons (dVar 6) (dCons (dVar 2) dNil)))) (gNm 7)) dSkip) (dRet (dVar 7)))))))))
/-- the mark of a pair at a place -/
def hil (p : Nat) (a b : Int) : Int :=
  if p = 0 then (if a < 0 ∧ b < 0 then -1 else 1)
  else if p = 2 then (if (halfI (tkI p a).1 * halfI (tkI p b).1 + ((tkI p a).2 : Int) * eighthI (tkI p b).1 + ((tkI p b).2 : Int) * eighthI (tkI p a).1) % 2 = 0 then 1 else -1)
  else (if (tkI p a).2 % 2 = 1 ∧ (tkI p b).2 % 2 = 1 ∧ p % 4 = 3 then -1 else 1) * (if (tkI p b).2 % 2 = 1 then leg p (tkI p a).1 else 1) * (if (tkI p a).2 % 2 = 1 then leg p (tkI p b).1 else 1)
def sp_mark : Lay.Spec := fun ds R => match ds with
  | [.int a, .int b, .int p] => (a ≠ 0 ∧ b ≠ 0 ∧ 0 ≤ p ∧ (p = 0 ∨ AnyP p.toNat) ∧ a.natAbs < 2 ^ 2000 ∧ b.natAbs < 2 ^ 2000 ∧ p.natAbs < 2 ^ 2000) ∧ R (.int (hil p.toNat a b))
  | _ => False
theorem small_mul {x y : Int} {n : Nat} (hx : x.natAbs ≤ 1) (hy : y.natAbs < 2 ^ n) (hn : n ≤ 100000) : CMulW x y := mulOk (n := 1) (m := n) (by omega) hy (by omega)
theorem halfI_le (u : Int) : (halfI u).natAbs ≤ 1 := by unfold halfI; omega
theorem eighthI_le (u : Int) : (eighthI u).natAbs ≤ 1 := by unfold eighthI; split <;> decide
theorem ok_mark : ∀ ds R, sp_mark ds R → rd_mark (fnE R) (startE 8 ds) := by
  intro ds R h
  unfold sp_mark at h
  split at h
  · rename_i a b p
    obtain ⟨⟨a0, b0, p0, hp, ab, bb, pb⟩, h⟩ := h
    obtain ⟨p, rfl⟩ : ∃ m : Nat, p = (m : Int) := ⟨p.toNat, by omega⟩
    rw [Int.toNat_natCast] at hp h
    unfold hil at h
    unfold rd_mark
    walk_at "dd"
    refine ⟨fun z => ?_, fun z => then_intro ?_⟩
    · rw [if_pos (by omega)] at h
      refine ⟨fun x => ⟨fun y => ?_, fun y => ?_⟩, fun x => ?_⟩
      · rw [if_pos ⟨x, y⟩] at h; exact h
      · rw [if_neg (fun w => y w.2)] at h; exact h
      · rw [if_neg (fun w => x w.1)] at h; exact h
    · have hp : AnyP p := hp.resolve_left z
      have p2 := hp.pr.1
      rw [if_neg (by omega)] at h
      have ka := bits_of_pow (tkI_le p2 a0).2 ab
      have kb := bits_of_pow (tkI_le p2 b0).2 bb
      walk_at "dd"
      refine ⟨⟨a0, by omega, 2000, by decide, pb⟩, ?_⟩
      rw [Int.toNat_natCast]
      walk_at "dd"
      refine ⟨⟨b0, by omega, 2000, by decide, pb⟩, ?_⟩
      rw [Int.toNat_natCast]
      generalize (tkI p a).1 = u at *
      generalize (tkI p a).2 = k at *
      generalize (tkI p b).1 = v at *
      generalize (tkI p b).2 = m at *
      have hb2 : (2000 : Nat) < 2 ^ 12 := by decide
      walk_at "dd"
      refine ⟨fun e => ?_, fun e => then_intro ?_⟩
      · have e2 : p = 2 := by omega
        rw [if_pos e2] at h
        rw [fmod_pos _ (by decide)]
        have hh := halfI_le u
        have hh' := halfI_le v
        have he := eighthI_le u
        have he' := eighthI_le v
        refine ⟨mulOk (n := 1) (m := 1) (by omega) (by omega) (by decide), mulOk (n := 12) (m := 1) (by omega) (by omega) (by decide), mulOk (n := 12) (m := 1) (by omega) (by omega) (by decide), by decide, fun x => ?_, fun x => ?_⟩
        · rw [if_pos x] at h; exact h
        · rw [if_neg x] at h; exact h
      · have ho : OddP p := hp.resolve_left (by omega)
        rw [if_neg ho.ne] at h
        have ek : ((k : Int)).fmod 2 = ((k % 2 : Nat) : Int) := nat_fmod k 2 (by decide)
        have em : ((m : Int)).fmod 2 = ((m % 2 : Nat) : Int) := nat_fmod m 2 (by decide)
        have e4 : ((p : Int)).fmod 4 = ((p % 4 : Nat) : Int) := nat_fmod p 4 (by decide)
        have hu := leg_vals p u
        have hv := leg_vals p v
        -- the end
        have last : ∀ s : Int, s.natAbs ≤ 1 → R (.int (s * (if m % 2 = 1 then leg p u else 1) * (if k % 2 = 1 then leg p v else 1))) → Then (dSeq (dCond (dT (dOp eqD (dOp modD (dVar 5) (dC (.int 2))) (dC (.int 1)))) (dAsg (dOp mulD (dVar 7) (dCall sp_mark_of (dCons (dVar 4) (dCons (dVar 2) dNil)))) (gNm 7)) dSkip) (dSeq (dCond (dT (dOp eqD (dOp modD (dVar 3) (dC (.int 2))) (dC (.int 1)))) (dAsg (dOp mulD (dVar 7) (dCall sp_mark_of (dCons (dVar 6) (dCons (dVar 2) dNil)))) (gNm 7)) dSkip) (dRet (dVar 7)))) { nx := fun x => R PyData.none, rt := R } [.val (.int a), .val (.int b), .val (.int p), .val (.int k), .val (.int u), .val (.int m), .val (.int v), .val (.int s)] := fun s hs hR => by
          have next : ∀ s2 : Int, s2.natAbs ≤ 1 → R (.int (s2 * (if k % 2 = 1 then leg p v else 1))) → Then (dSeq (dCond (dT (dOp eqD (dOp modD (dVar 3) (dC (.int 2))) (dC (.int 1)))) (dAsg (dOp mulD (dVar 7) (dCall sp_mark_of (dCons (dVar 6) (dCons (dVar 2) dNil)))) (gNm 7)) dSkip) (dRet (dVar 7))) { nx := fun x => R PyData.none, rt := R } [.val (.int a), .val (.int b), .val (.int p), .val (.int k), .val (.int u), .val (.int m), .val (.int v), .val (.int s2)] := fun s2 hs2 hR2 => by
            refine then_intro ?_
            walk_at "dd"
            rw [ek]
            refine ⟨by decide, fun x => ?_, fun x => ?_⟩
            · refine mark_leg ho ?_
              rw [if_pos (by omega)] at hR2
              walk_at "dd"
              exact ⟨mulOk (n := 1) (m := 1) (by omega) (by omega) (by decide), then_intro (by walk_at "dd"; exact hR2)⟩
            · rw [if_neg (by omega), Int.mul_one] at hR2
              exact then_intro (by walk_at "dd"; exact hR2)
          refine then_intro ?_
          walk_at "dd"
          rw [em]
          refine ⟨by decide, fun x => ?_, fun x => ?_⟩
          · refine mark_leg ho ?_
            rw [if_pos (by omega)] at hR
            walk_at "dd"
            refine ⟨mulOk (n := 1) (m := 1) (by omega) (by omega) (by decide), next _ ?_ hR⟩
            have := mul_le_nat (x := s) (y := leg p u) (a := 1) (b := 1) hs (by omega)
            omega
          · rw [if_neg (by omega), Int.mul_one] at hR
            exact next _ hs hR
        walk_at "dd"
        rw [ek, em, e4]
        refine ⟨by decide, fun x => ⟨by decide, fun y => ⟨by decide, fun w => ?_, fun w => ?_⟩, fun y => ?_⟩, fun x => ?_⟩
        · rw [if_pos ⟨by omega, by omega, by omega⟩] at h
          exact last _ (by decide) h
        · rw [if_neg (fun q => w (by omega))] at h
          exact last _ (by decide) h
        · rw [if_neg (fun q => y (by omega))] at h
          exact last _ (by decide) h
        · rw [if_neg (fun q => x (by omega))] at h
          exact last _ (by decide) h
  · exact h.elim
theorem spx_mark {a b p : Int} {R : D → Prop} : sp_mark [.int a, .int b, .int p] R = ((a ≠ 0 ∧ b ≠ 0 ∧ 0 ≤ p ∧ (p = 0 ∨ AnyP p.toNat) ∧ a.natAbs < 2 ^ 2000 ∧ b.natAbs < 2 ^ 2000 ∧ p.natAbs < 2 ^ 2000) ∧ R (.int (hil p.toNat a b))) := rfl
local macro_rules | `(tactic| walk_at "d1") => `(tactic| try simp only [dSeq, dSkip, dPass, dRet, dRetN, dDrop, dCond, dAsg, gNm, gTp, dOwn, dOwnL, dPar, dAug, dApp, dExt, dFrz, dFor, dLc, dBreak, dCont, dVar, dC, dOp, dT, dIsi, dNeg, dNot, dTNot, dAnd, dOr, dTAnd, dTOr, dIf, dCh, dNil, dCons, dTup, dLst, dIxO, dB, dCall, dCallW, dItems, dRng1, dRng2, dYes, fnE, startE, startW, startS, dLenO, dLenS, dIxS, dSl, dPt, dNo, wipeE, addD_int, addD_str, addD_tup, addD_lst, subD_int, mulD_int, mulD_tup, mulD_lst, fdivD_int, modD_int, powD_int, shlD_int, shrD_int, andD_int, ltD_int, leD_int, gtD_int, geD_int, eqD_ap, neD_ap, isD_ap, isNotD_ap, isNon_none, isNon_int, isNon_bool, isNon_str, isNon_tup, isNon_lst, isInt_none, isInt_int, isInt_bool, isInt_str, isInt_tup, isInt_lst, isBool_none, isBool_int, isBool_bool, isBool_str, isBool_tup, isBool_lst, isStr_none, isStr_int, isStr_bool, isStr_str, isStr_tup, isStr_lst, isTup_none, isTup_int, isTup_bool, isTup_str, isTup_tup, isTup_lst, isLst_lst, Cnd_true, Cnd_false, Cnd_not, Cnd_dec, asB_bool, forall_const, true_implies, false_implies, implies_true, decide_true, decide_false, Classical.not_not, negD_int, notD_bool, onVal_val, onOwn_own, onDic_dic, onScr_scr, onWv_wv, onInt_int, onTup_tup, onLst_lst, onItems_lst, onItems_tup, frz1_own, frz1_val, frz1_un, ixD_lst, ixD_tup, ixL_int, optD_some, optI_some, absD_int, intD_int, intD_bool, lenD_lst, lenD_tup, lenD_str, tupleD_lst, tupleD_tup, listD_lst, listD_tup, min2D_int, max2D_int, sumD_ints, allD_bls, anyD_bls, slD_lst, slD_tup, slD_str, gNl_nil, gCs_cons, par2_two, seq1_lst, seq1_tup, rng1D_int, rng2D_int, gt_z, gt_s, sp_next_int, set_z, set_s, List.map_cons, List.map_nil, List.length_cons, List.length_nil, List.cons_append, List.nil_append, List.replicate, Nat.reduceAdd, Nat.reduceSub, Nat.zero_add, shaped_int, shaped_bool, shaped_none, shaped_listI, shaped_tupI, shaped_nilL, shaped_nilT, eqv_int, eqv_bool, eqv_str, eqv_none, eqv_list_nil, List.isEmpty_nil, List.isEmpty_cons, Bool.true_eq_false, Bool.false_eq_true, decide_eq_true_eq, and_self, true_and, and_true, not_dec, Bool.not_eq_true', decide_eq_false_iff_not, atI_0, atI_1, atI_2, ite_true, ite_false, if_true, if_false, reduceIte, Bool.not_true, Bool.not_false, not_true_eq_false, not_false_eq_true, List.set_cons_zero, List.set_cons_succ, dPar3, dRev, par3_three, sortedD_ints, revD_tup, two_nat, one_nat, three_nat, dCh3, dOwnC, dPutPar, putPar_two, dZip2, zip2D_lst, zip2D_tup, dPut, isBD_bl, isNotBD_bl, dNewO, dPutO, dSortedO, putKD_int, dPar3O, dParO2, par3O_two, parO2_one, minLD_lst, dKeysW, rdPairs_nil, rdPairs_cons, onPair_ii, revD_lst, spx_half, spx_eighth, spx_size_of, spx_without_twos, spx_mark])
local macro_rules | `(tactic| walk_at "dd") => `(tactic| (walk_at "d1"; repeat (with_reducible (refine then_intro ?_); walk_at "d1")))
def plainI (p : Nat) (a : Int) : Int := (tkI (p * p) a).1
theorem plain_is {p : Nat} (hp : PrimeI p) {a : Int} (ha : a ≠ 0) : plainI p a = (tkI p a).1 * (p : Int) ^ ((tkI p a).2 % 2) := by
  obtain ⟨s1, s2, s3⟩ := tkI_spec hp.1 ha
  have h2 := hp.1
  unfold plainI
  generalize (tkI p a).1 = u at *
  generalize (tkI p a).2 = k at *
  have hnd : ¬ ((p * p : Nat) : Int) ∣ u * (p : Int) ^ (k % 2) := fun d => by
    rw [Int.natCast_mul] at d
    rcases Nat.mod_two_eq_zero_or_one k with z | z
    · rw [z, Int.pow_zero, Int.mul_one] at d
      exact s3 (Int.dvd_trans (Int.dvd_mul_right _ _) d)
    · rw [z, Int.pow_succ, Int.pow_zero, Int.one_mul] at d
      exact s3 (Int.dvd_of_mul_dvd_mul_right (by omega) d)
  have e : a = u * (p : Int) ^ (k % 2) * ((p * p : Nat) : Int) ^ (k / 2) := by
    rw [s1, Int.natCast_mul, Int.mul_pow, ← Int.pow_add, Int.mul_assoc, ← Int.pow_add]
    congr 2
    omega
  have ht := tkI_pow (p := p * p) (Nat.le_trans h2 (Nat.le_mul_of_pos_left p (by omega))) hnd (k / 2)
  rw [e, ht]
theorem leg_neg_one {p : Nat} (hp : OddP p) : leg p (-1) = if p % 4 = 3 then -1 else 1 := by
  have ho := hp.odd
  refine leg_is hp (by split <;> decide) ?_
  rw [neg_one_pow]
  split <;> split
  · omega
  · rw [Int.sub_self]; exact ⟨0, by omega⟩
  · rw [Int.sub_self]; exact ⟨0, by omega⟩
  · omega
theorem hil_odd {p : Nat} (hp : OddP p) {e : Nat} (he : 2 ≤ e) {a b : Int} (ha : a ≠ 0) (hb : b ≠ 0) : ZeroM ((p : Int) ^ e) (plainI p a) (plainI p b) (-1) ↔ hil p a b = 1 := by
  have h3 := hp.three
  rw [plain_is hp.pr ha, plain_is hp.pr hb]
  unfold hil
  rw [if_neg (by omega), if_neg hp.ne]
  obtain ⟨_, _, hu⟩ := tkI_spec hp.pr.1 ha
  obtain ⟨_, _, hv⟩ := tkI_spec hp.pr.1 hb
  generalize (tkI p a).1 = u at *
  generalize (tkI p a).2 = k at *
  generalize (tkI p b).1 = v at *
  generalize (tkI p b).2 = m at *
  have p1 : (p : Int) ^ 1 = p := by rw [Int.pow_succ, Int.pow_zero, Int.one_mul]
  rcases Nat.mod_two_eq_zero_or_one k with z | z <;> rcases Nat.mod_two_eq_zero_or_one m with y | y <;> rw [z, y]
  · rw [Int.pow_zero, Int.mul_one, Int.mul_one]
    exact ⟨fun _ => by simp, fun _ => zero_units hp hu hv (by omega)⟩
  · rw [Int.pow_zero, Int.mul_one, p1, zeroM_swap hp, Int.mul_comm v, zero_one hp hv hu he]
    simp
  · rw [Int.pow_zero, Int.mul_one, p1, Int.mul_comm u, zero_one hp hu hv he]
    simp
  · rw [p1, Int.mul_comm u, Int.mul_comm v, zero_two hp hu hv he]
    have e1 : leg p (-(u * v)) = leg p (-1) * (leg p u * leg p v) := by
      rw [show -(u * v) = -1 * (u * v) by omega, leg_mul hp, leg_mul hp]
    rw [e1, leg_neg_one hp]
    have e2 : ((1 : Nat) = 1 ∧ (1 : Nat) = 1 ∧ p % 4 = 3) ↔ p % 4 = 3 := ⟨fun h => h.2.2, fun h => ⟨rfl, rfl, h⟩⟩
    rw [if_pos rfl, if_pos rfl, Int.mul_assoc]
    by_cases q : p % 4 = 3
    · rw [if_pos q, if_pos ⟨rfl, rfl, q⟩]
    · rw [if_neg q, if_neg (fun w => q w.2.2)]
/-! ### at two -/
theorem mask_ok : (List.range 64).all (fun c => (List.range 64).all fun i => (mask64 c).testBit i == sq64.any fun s => decide (c * s % 64 = i)) = true := by decide +kernel
theorem sq_in : (List.range 64).all (fun x => decide (x * x % 64 ∈ sq64)) = true := by decide
theorem sq_of : sq64.all (fun s => (List.range 64).any fun x => decide (x * x % 64 = s)) = true := by decide
theorem sq64_iff (x : Int) : ∃ s ∈ sq64, (64 : Int) ∣ x * x - s := by
  have h0 := Int.emod_nonneg x (show (64 : Int) ≠ 0 by decide)
  have h1 := Int.emod_lt_of_pos x (show (0 : Int) < 64 by decide)
  have hm := of_decide_eq_true (List.all_eq_true.mp sq_in (x % 64).toNat (by rw [List.mem_range]; omega))
  refine ⟨_, hm, ?_⟩
  have e : ((((x % 64).toNat * (x % 64).toNat % 64 : Nat)) : Int) = x * x % 64 := by
    rw [Int.natCast_emod, Int.natCast_mul, Int.toNat_of_nonneg h0]
    exact (Int.mul_emod x x 64).symm
  rw [e]
  exact emod_dvd2 _ _
theorem sq64_has {s : Nat} (h : s ∈ sq64) : ∃ x : Int, (64 : Int) ∣ x * x - s := by
  obtain ⟨x, _, hx⟩ := List.any_eq_true.mp (List.all_eq_true.mp sq_of s h)
  refine ⟨x, ?_⟩
  have := of_decide_eq_true hx
  rw [← this]
  have := emod_dvd2 ((x : Int) * x) 64
  rwa [show ((x * x % 64 : Nat) : Int) = (x : Int) * x % 64 by rw [Int.natCast_emod, Int.natCast_mul]; rfl]
theorem sq64_lt {s : Nat} (h : s ∈ sq64) : s < 64 := by
  have key : sq64.all (fun s => decide (s < 64)) = true := by decide
  exact of_decide_eq_true (List.all_eq_true.mp key s h)
/-- one letter 1 -/
theorem hit_iff {a b c : Nat} (ha : a < 64) (hb : b < 64) (hc : c < 64) : hit64 a b c = true ↔ ∃ y z : Int, (64 : Int) ∣ a + b * (y * y) + c * (z * z) := by
  unfold hit64
  rw [List.any_eq_true]
  constructor
  · rintro ⟨s, hs, ht⟩
    have sl := sq64_lt hs
    have hbs : b * s ≤ 63 * 63 := Nat.mul_le_mul (by omega) (by omega)
    have hmk := List.all_eq_true.mp (List.all_eq_true.mp mask_ok c (by rw [List.mem_range]; omega)) ((128 * 64 - a - b * s) % 64) (by rw [List.mem_range]; omega)
    rw [beq_iff_eq] at hmk
    rw [hmk] at ht
    obtain ⟨s', hs', e⟩ := List.any_eq_true.mp ht
    have e := of_decide_eq_true e
    obtain ⟨y, hy⟩ := sq64_has hs
    obtain ⟨z, hz⟩ := sq64_has hs'
    refine ⟨y, z, ?_⟩
    have d0 : (64 : Int) ∣ (a : Int) + b * s + c * s' := by
      have : (a + b * s + c * s') % 64 = 0 := by omega
      have := Int.natCast_dvd_natCast.mpr (Nat.dvd_of_mod_eq_zero this)
      rwa [Int.natCast_add, Int.natCast_add, Int.natCast_mul, Int.natCast_mul] at this
    have := Int.dvd_add (Int.dvd_add (Int.dvd_mul_of_dvd_right (b := (b : Int)) hy) (Int.dvd_mul_of_dvd_right (b := (c : Int)) hz)) d0
    rwa [show (b : Int) * (y * y - s) + c * (z * z - s') + (a + b * s + c * s') = a + b * (y * y) + c * (z * z) by grind] at this
  · rintro ⟨y, z, h⟩
    obtain ⟨s, hs, hy⟩ := sq64_iff y
    obtain ⟨s', hs', hz⟩ := sq64_iff z
    have sl := sq64_lt hs
    have sl' := sq64_lt hs'
    have hbs : b * s ≤ 63 * 63 := Nat.mul_le_mul (by omega) (by omega)
    have d0 : (64 : Int) ∣ (a : Int) + b * s + c * s' := by
      have := Int.dvd_sub (Int.dvd_sub h (Int.dvd_mul_of_dvd_right (b := (b : Int)) hy)) (Int.dvd_mul_of_dvd_right (b := (c : Int)) hz)
      rwa [show (a : Int) + b * (y * y) + c * (z * z) - b * (y * y - s) - c * (z * z - s') = a + b * s + c * s' by grind] at this
    have d1 : (a + b * s + c * s') % 64 = 0 := by
      have : ((64 : Nat) : Int) ∣ ((a + b * s + c * s' : Nat) : Int) := by
        rw [Int.natCast_add, Int.natCast_add, Int.natCast_mul, Int.natCast_mul]
        exact d0
      exact Nat.mod_eq_zero_of_dvd (Int.natCast_dvd_natCast.mp this)
    refine ⟨s, hs, ?_⟩
    have hmk := List.all_eq_true.mp (List.all_eq_true.mp mask_ok c (by rw [List.mem_range]; omega)) ((128 * 64 - a - b * s) % 64) (by rw [List.mem_range]; omega)
    rw [beq_iff_eq] at hmk
    rw [hmk, List.any_eq_true]
    exact ⟨s', hs', decide_eq_true (by omega)⟩
theorem zero64_iff {A B : Nat} (hA : A < 64) (hB : B < 64) {a b : Int} (ha : (64 : Int) ∣ a - A) (hb : (64 : Int) ∣ b - B) : zero64 A B = true ↔ ZeroM 64 a b (-1) := by
  unfold zero64
  rw [Bool.or_eq_true, Bool.or_eq_true, hit_iff hA (by decide) hB, hit_iff hB hA (by decide), hit_iff (by decide) hB hA]
  have c63 : (64 : Int) ∣ -1 - (63 : Nat) := ⟨-1, by decide⟩
  -- A x x + B y y + 63 z z and a x x + b y y - z z
  have tr : ∀ x y z : Int, (64 : Int) ∣ (A : Int) * (x * x) + B * (y * y) + ((63 : Nat) : Int) * (z * z) ↔ (64 : Int) ∣ a * (x * x) + b * (y * y) + -1 * (z * z) := fun x y z => by
    have d : (64 : Int) ∣ a * (x * x) + b * (y * y) + -1 * (z * z) - (A * (x * x) + B * (y * y) + ((63 : Nat) : Int) * (z * z)) := by
      have := Int.dvd_add (Int.dvd_add (Int.dvd_mul_of_dvd_left (c := x * x) ha) (Int.dvd_mul_of_dvd_left (c := y * y) hb)) (Int.dvd_mul_of_dvd_left (c := z * z) c63)
      rwa [show (a - A) * (x * x) + (b - B) * (y * y) + (-1 - ((63 : Nat) : Int)) * (z * z) = a * (x * x) + b * (y * y) + -1 * (z * z) - (A * (x * x) + B * (y * y) + ((63 : Nat) : Int) * (z * z)) by grind] at this
    constructor
    · intro h
      have := Int.dvd_add d h
      rwa [Int.sub_add_cancel] at this
    · intro h
      have := Int.dvd_sub h d
      rwa [show a * (x * x) + b * (y * y) + -1 * (z * z) - (a * (x * x) + b * (y * y) + -1 * (z * z) - (A * (x * x) + B * (y * y) + ((63 : Nat) : Int) * (z * z))) = A * (x * x) + B * (y * y) + ((63 : Nat) : Int) * (z * z) by omega] at this
  constructor
  · rintro ((⟨z, y, h⟩ | ⟨x, z, h⟩) | ⟨y, x, h⟩)
    · refine ⟨1, y, z, .inl rfl, (tr 1 y z).mp ?_⟩
      rwa [show (A : Int) * (1 * 1) + B * (y * y) + ((63 : Nat) : Int) * (z * z) = A + ((63 : Nat) : Int) * (z * z) + B * (y * y) by omega]
    · refine ⟨x, 1, z, .inr (.inl rfl), (tr x 1 z).mp ?_⟩
      rwa [show (A : Int) * (x * x) + B * (1 * 1) + ((63 : Nat) : Int) * (z * z) = B + A * (x * x) + ((63 : Nat) : Int) * (z * z) by omega]
    · refine ⟨x, y, 1, .inr (.inr rfl), (tr x y 1).mp ?_⟩
      rwa [show (A : Int) * (x * x) + B * (y * y) + ((63 : Nat) : Int) * (1 * 1) = ((63 : Nat) : Int) + B * (y * y) + A * (x * x) by omega]
  · rintro ⟨x, y, z, hc, h⟩
    have h := (tr x y z).mpr h
    rcases hc with rfl | rfl | rfl
    · refine .inl (.inl ⟨z, y, ?_⟩)
      rwa [show (A : Int) + ((63 : Nat) : Int) * (z * z) + B * (y * y) = (A : Int) * (1 * 1) + B * (y * y) + ((63 : Nat) : Int) * (z * z) by omega]
    · refine .inl (.inr ⟨x, z, ?_⟩)
      rwa [show (B : Int) + A * (x * x) + ((63 : Nat) : Int) * (z * z) = (A : Int) * (x * x) + B * (1 * 1) + ((63 : Nat) : Int) * (z * z) by omega]
    · refine .inr ⟨y, x, ?_⟩
      rwa [show ((63 : Nat) : Int) + B * (y * y) + A * (x * x) = (A : Int) * (x * x) + B * (y * y) + ((63 : Nat) : Int) * (1 * 1) by omega]
theorem hil_two {a b : Int} (ha : a ≠ 0) (hb : b ≠ 0) : ZeroM 64 (plainI 2 a) (plainI 2 b) (-1) ↔ hil 2 a b = 1 := by
  have p2 : PrimeI 2 := prime_two
  rw [plain_is p2 ha, plain_is p2 hb]
  unfold hil
  rw [if_neg (by decide), if_pos rfl]
  obtain ⟨_, _, hu⟩ := tkI_spec p2.1 ha
  obtain ⟨_, _, hv⟩ := tkI_spec p2.1 hb
  generalize (tkI 2 a).1 = u at *
  generalize (tkI 2 a).2 = k at *
  generalize (tkI 2 b).1 = v at *
  generalize (tkI 2 b).2 = m at *
  have two : ((2 : Nat) : Int) = 2 := rfl
  rw [two] at hu hv ⊢
  have uo : u % 2 = 1 := by
    rcases (show u % 2 = 0 ∨ u % 2 = 1 by omega) with z | z
    · exact absurd (Int.dvd_of_emod_eq_zero z) hu
    · exact z
  have vo : v % 2 = 1 := by
    rcases (show v % 2 = 0 ∨ v % 2 = 1 by omega) with z | z
    · exact absurd (Int.dvd_of_emod_eq_zero z) hv
    · exact z
  have red : ∀ (w : Int) (j : Nat), w % 2 = 1 → ∃ W : Nat, W < 64 ∧ (64 : Int) ∣ w * 2 ^ (j % 2) - W ∧ W % 4 ≠ 0 ∧ (if W % 2 = 0 then 1 else 0) = j % 2 ∧ half2 (if W % 2 = 0 then W / 2 else W) = (halfI w).toNat ∧ eighth2 (if W % 2 = 0 then W / 2 else W) = (eighthI w).toNat := fun w j wo => by
    have hval : ∀ V : Nat, V = (w % 32).toNat ∨ V = (w % 64).toNat → half2 V = (halfI w).toNat ∧ eighth2 V = (eighthI w).toNat := fun V hV => by
      unfold half2 eighth2 halfI eighthI
      refine ⟨by omega, ?_⟩
      by_cases q : w % 8 = 3 ∨ w % 8 = 5
      · rw [if_pos q, if_pos (by omega)]; rfl
      · rw [if_neg q, if_neg (by omega)]; rfl
    rcases Nat.mod_two_eq_zero_or_one j with z | z
    · have hw : (if (w % 64).toNat % 2 = 0 then (w % 64).toNat / 2 else (w % 64).toNat) = (w % 64).toNat := if_neg (by omega)
      refine ⟨(w % 64).toNat, by omega, ⟨w / 64, by rw [z, Int.pow_zero]; omega⟩, by omega, by rw [z, if_neg (by omega)], ?_⟩
      rw [hw]
      exact hval _ (.inr rfl)
    · have e2 : (2 : Int) ^ 1 = 2 := rfl
      have hw : (if (2 * w % 64).toNat % 2 = 0 then (2 * w % 64).toNat / 2 else (2 * w % 64).toNat) = (w % 32).toNat := by rw [if_pos (by omega)]; omega
      refine ⟨(2 * w % 64).toNat, by omega, ⟨2 * w / 64, by rw [z, e2]; omega⟩, by omega, by rw [z, if_pos (by omega)], ?_⟩
      rw [hw]
      exact hval _ (.inl rfl)
  obtain ⟨A, hA, hda, hA4, eA1, eA2, eA3⟩ := red u k uo
  obtain ⟨B, hB, hdb, hB4, eB1, eB2, eB3⟩ := red v m vo
  rw [← zero64_iff hA hB hda hdb]
  have hck := List.all_eq_true.mp check64 A (by rw [List.mem_range]; omega)
  rw [Bool.or_eq_true, decide_eq_true_eq] at hck
  have hck := List.all_eq_true.mp (hck.resolve_left hA4) B (by rw [List.mem_range]; omega)
  rw [Bool.or_eq_true, decide_eq_true_eq] at hck
  have hck := hck.resolve_left hB4
  rw [beq_iff_eq] at hck
  rw [hck]
  unfold hil2
  simp only
  rw [eA1, eA2, eA3, eB1, eB2, eB3, decide_eq_true_eq]
  have hh : halfI u = 0 ∨ halfI u = 1 := by unfold halfI; omega
  have hh' : halfI v = 0 ∨ halfI v = 1 := by unfold halfI; omega
  have he : eighthI u = 0 ∨ eighthI u = 1 := by unfold eighthI; split; exact .inr rfl; exact .inl rfl
  have he' : eighthI v = 0 ∨ eighthI v = 1 := by unfold eighthI; split; exact .inr rfl; exact .inl rfl
  have fin : ∀ x : Int, ((if x % 2 = 0 then (1 : Int) else -1) = 1) ↔ x % 2 = 0 := fun x => by
    split
    · exact ⟨fun _ => by assumption, fun _ => rfl⟩
    · exact ⟨fun z => absurd z (by decide), fun z => absurd z (by assumption)⟩
  rw [fin]
  rcases hh with h1 | h1 <;> rcases hh' with h2 | h2 <;> rcases he with h3 | h3 <;> rcases he' with h4 | h4 <;> rw [h1, h2, h3, h4] <;> simp only [Int.toNat_zero, Int.toNat_one, Nat.mul_zero, Nat.mul_one, Nat.zero_mul, Nat.one_mul, Int.mul_zero, Int.mul_one, Int.zero_mul, Int.one_mul] <;> (clear eA1 eA2 eA3 eB1 eB2 eB3 hda hdb hck red fin; first | exact ⟨fun _ => rfl, fun _ => trivial⟩ | (constructor <;> intro hx <;> omega))
local macro_rules | `(tactic| walk_at "d1") => `(tactic| try simp only [dSeq, dSkip, dPass, dRet, dRetN, dDrop, dCond, dAsg, gNm, gTp, dOwn, dOwnL, dPar, dAug, dApp, dExt, dFrz, dFor, dLc, dBreak, dCont, dVar, dC, dOp, dT, dIsi, dNeg, dNot, dTNot, dAnd, dOr, dTAnd, dTOr, dIf, dCh, dNil, dCons, dTup, dLst, dIxO, dB, dCall, dCallW, dItems, dRng1, dRng2, dYes, fnE, startE, startW, startS, dLenO, dLenS, dIxS, dSl, dPt, dNo, wipeE, addD_int, addD_str, addD_tup, addD_lst, subD_int, mulD_int, mulD_tup, mulD_lst, fdivD_int, modD_int, powD_int, shlD_int, shrD_int, andD_int, ltD_int, leD_int, gtD_int, geD_int, eqD_ap, neD_ap, isD_ap, isNotD_ap, isNon_none, isNon_int, isNon_bool, isNon_str, isNon_tup, isNon_lst, isInt_none, isInt_int, isInt_bool, isInt_str, isInt_tup, isInt_lst, isBool_none, isBool_int, isBool_bool, isBool_str, isBool_tup, isBool_lst, isStr_none, isStr_int, isStr_bool, isStr_str, isStr_tup, isStr_lst, isTup_none, isTup_int, isTup_bool, isTup_str, isTup_tup, isTup_lst, isLst_lst, Cnd_true, Cnd_false, Cnd_not, Cnd_dec, asB_bool, forall_const, true_implies, false_implies, implies_true, decide_true, decide_false, Classical.not_not, negD_int, notD_bool, onVal_val, onOwn_own, onDic_dic, onScr_scr, onWv_wv, onInt_int, onTup_tup, onLst_lst, onItems_lst, onItems_tup, frz1_own, frz1_val, frz1_un, ixD_lst, ixD_tup, ixL_int, optD_some, optI_some, absD_int, intD_int, intD_bool, lenD_lst, lenD_tup, lenD_str, tupleD_lst, tupleD_tup, listD_lst, listD_tup, min2D_int, max2D_int, sumD_ints, allD_bls, anyD_bls, slD_lst, slD_tup, slD_str, gNl_nil, gCs_cons, par2_two, seq1_lst, seq1_tup, rng1D_int, rng2D_int, gt_z, gt_s, sp_next_int, set_z, set_s, List.map_cons, List.map_nil, List.length_cons, List.length_nil, List.cons_append, List.nil_append, List.replicate, Nat.reduceAdd, Nat.reduceSub, Nat.zero_add, shaped_int, shaped_bool, shaped_none, shaped_listI, shaped_tupI, shaped_nilL, shaped_nilT, eqv_int, eqv_bool, eqv_str, eqv_none, eqv_list_nil, List.isEmpty_nil, List.isEmpty_cons, Bool.true_eq_false, Bool.false_eq_true, decide_eq_true_eq, and_self, true_and, and_true, not_dec, Bool.not_eq_true', decide_eq_false_iff_not, atI_0, atI_1, atI_2, ite_true, ite_false, if_true, if_false, reduceIte, Bool.not_true, Bool.not_false, not_true_eq_false, not_false_eq_true, List.set_cons_zero, List.set_cons_succ, dPar3, dRev, par3_three, sortedD_ints, revD_tup, two_nat, one_nat, three_nat, dCh3, dOwnC, dPutPar, putPar_two, dZip2, zip2D_lst, zip2D_tup, dPut, isBD_bl, isNotBD_bl, dNewO, dPutO, dSortedO, putKD_int, dPar3O, dParO2, par3O_two, parO2_one, minLD_lst, dKeysW, rdPairs_nil, rdPairs_cons, onPair_ii, revD_lst])
local macro_rules | `(tactic| walk_at "dd") => `(tactic| (walk_at "d1"; repeat (with_reducible (refine then_intro ?_); walk_at "d1")))
def rd_law_plain_b1 : DTS :=
  (dSeq (dCond (dT (dOp neD (dOp modD (dB intD (dCons (dVar 0) dNil)) (dOp mulD (dVar 1) (dVar 1))) (dC (.int 0)))) dBreak dSkip) (dAsg (dOp fdivD (dVar 0) (dOp mulD (dVar 1) (dVar 1))) (gNm 0)))
def rd_law_plain : DTS :=
  (dSeq (dFor (dRng1 (dCons (dC (.int 999)) dNil)) (gNm 2) rd_law_plain_b1) (dRet (dVar 0)))
def sp_law_plain : Lay.Spec := fun ds R => match ds with
  | [.int n, .int p] => (n ≠ 0 ∧ 2 ≤ p ∧ n.natAbs < 2 ^ 999 ∧ p.natAbs < 2 ^ 2000) ∧ R (.int (tkI (p.toNat * p.toNat) n).1)
  | _ => False
theorem ok_law_plain : ∀ ds R, sp_law_plain ds R → rd_law_plain (fnE R) (startE 3 ds) := by
  intro ds R h
  unfold sp_law_plain at h
  split at h
  · rename_i n p
    obtain ⟨⟨n0, hp, nb, pb⟩, h⟩ := h
    obtain ⟨p, rfl⟩ : ∃ q : Nat, p = (q : Int) := ⟨p.toNat, by omega⟩
    rw [Int.toNat_natCast] at h
    have hp2 : 2 ≤ p := by omega
    obtain ⟨q, hq⟩ : ∃ q, q = p * p := ⟨_, rfl⟩
    have hqi : (p : Int) * p = (q : Int) := by rw [hq, Int.natCast_mul]
    have hp' : 2 ≤ q := by rw [hq]; exact Nat.le_trans hp2 (Nat.le_mul_of_pos_left p (by omega))
    have qb : ((q : Int)).natAbs < 2 ^ 4000 := by rw [← hqi]; exact bits_mul pb pb
    rw [← hq] at h
    have hv : (tkI q n).2 < 999 := bits_of_pow (tkI_le hp' n0).2 nb
    unfold rd_law_plain
    walk_at "dd"
    refine ⟨by decide, ?_⟩
    refine for_byB (fun (s : Int × Sl) => [.val (.int s.1), .val (.int p), s.2]) (fun i s => s.1 ≠ 0 ∧ (tkI q s.1).1 = (tkI q n).1 ∧ (tkI q s.1).2 + i ≤ 999) (n, .un) rfl ⟨n0, rfl, by show (tkI q n).2 + 0 ≤ 999; omega⟩ ?_ ?_
    · rintro i d hd ⟨m, u⟩ ⟨m0, h1, h2⟩
      simp only at m0 h1 h2
      unfold rd_law_plain_b1
      walk_at "dd"
      rw [hqi, fmod_pos _ (by omega)]
      refine ⟨mulOk (n := 2000) (m := 2000) pb pb (by decide), by omega, fun e => ?_, fun e => ?_⟩
      · obtain ⟨d1, d2, d3⟩ := tkI_div hp' m0 (Int.dvd_of_emod_eq_zero e)
        rw [d1] at h1 h2
        walk_at "dd"
        rw [hqi, fdiv_pos _ (by omega : (0 : Int) < q)]
        have h2' : (tkI q (m / q)).2 + 1 + i ≤ 999 := h2
        exact ⟨mulOk (n := 2000) (m := 2000) pb pb (by decide), divOk (by omega) qb (by omega), (m / q, _), rfl, d2, h1, by show (tkI q (m / q)).2 + (i + 1) ≤ 999; omega⟩
      · rw [tkI_none (fun z => e (Int.emod_eq_zero_of_dvd z))] at h1
        walk_at "dd"
        rw [show m = (tkI q n).1 from h1]
        exact h
    · rintro ⟨m, u⟩ ⟨m0, h1, h2⟩
      simp only [rangeD_length] at m0 h1 h2
      walk_at "dd"
      have h2' : (tkI q m).2 + 999 ≤ 999 := h2
      obtain ⟨s1, s2, s3⟩ := tkI_spec hp' m0
      have e0 : (tkI q m).2 = 0 := by omega
      rw [e0, Int.pow_zero, Int.mul_one] at s1
      rw [s1, h1]
      exact h
  · exact h.elim
theorem spx_law_plain {n p : Int} {R : D → Prop} : sp_law_plain [.int n, .int p] R = ((n ≠ 0 ∧ 2 ≤ p ∧ n.natAbs < 2 ^ 999 ∧ p.natAbs < 2 ^ 2000) ∧ R (.int (tkI (p.toNat * p.toNat) n).1)) := rfl
local macro_rules | `(tactic| walk_at "d1") => `(tactic| try simp only [dSeq, dSkip, dPass, dRet, dRetN, dDrop, dCond, dAsg, gNm, gTp, dOwn, dOwnL, dPar, dAug, dApp, dExt, dFrz, dFor, dLc, dBreak, dCont, dVar, dC, dOp, dT, dIsi, dNeg, dNot, dTNot, dAnd, dOr, dTAnd, dTOr, dIf, dCh, dNil, dCons, dTup, dLst, dIxO, dB, dCall, dCallW, dItems, dRng1, dRng2, dYes, fnE, startE, startW, startS, dLenO, dLenS, dIxS, dSl, dPt, dNo, wipeE, addD_int, addD_str, addD_tup, addD_lst, subD_int, mulD_int, mulD_tup, mulD_lst, fdivD_int, modD_int, powD_int, shlD_int, shrD_int, andD_int, ltD_int, leD_int, gtD_int, geD_int, eqD_ap, neD_ap, isD_ap, isNotD_ap, isNon_none, isNon_int, isNon_bool, isNon_str, isNon_tup, isNon_lst, isInt_none, isInt_int, isInt_bool, isInt_str, isInt_tup, isInt_lst, isBool_none, isBool_int, isBool_bool, isBool_str, isBool_tup, isBool_lst, isStr_none, isStr_int, isStr_bool, isStr_str, isStr_tup, isStr_lst, isTup_none, isTup_int, isTup_bool, isTup_str, isTup_tup, isTup_lst, isLst_lst, Cnd_true, Cnd_false, Cnd_not, Cnd_dec, asB_bool, forall_const, true_implies, false_implies, implies_true, decide_true, decide_false, Classical.not_not, negD_int, notD_bool, onVal_val, onOwn_own, onDic_dic, onScr_scr, onWv_wv, onInt_int, onTup_tup, onLst_lst, onItems_lst, onItems_tup, frz1_own, frz1_val, frz1_un, ixD_lst, ixD_tup, ixL_int, optD_some, optI_some, absD_int, intD_int, intD_bool, lenD_lst, lenD_tup, lenD_str, tupleD_lst, tupleD_tup, listD_lst, listD_tup, min2D_int, max2D_int, sumD_ints, allD_bls, anyD_bls, slD_lst, slD_tup, slD_str, gNl_nil, gCs_cons, par2_two, seq1_lst, seq1_tup, rng1D_int, rng2D_int, gt_z, gt_s, sp_next_int, set_z, set_s, List.map_cons, List.map_nil, List.length_cons, List.length_nil, List.cons_append, List.nil_append, List.replicate, Nat.reduceAdd, Nat.reduceSub, Nat.zero_add, shaped_int, shaped_bool, shaped_none, shaped_listI, shaped_tupI, shaped_nilL, shaped_nilT, eqv_int, eqv_bool, eqv_str, eqv_none, eqv_list_nil, List.isEmpty_nil, List.isEmpty_cons, Bool.true_eq_false, Bool.false_eq_true, decide_eq_true_eq, and_self, true_and, and_true, not_dec, Bool.not_eq_true', decide_eq_false_iff_not, atI_0, atI_1, atI_2, ite_true, ite_false, if_true, if_false, reduceIte, Bool.not_true, Bool.not_false, not_true_eq_false, not_false_eq_true, List.set_cons_zero, List.set_cons_succ, dPar3, dRev, par3_three, sortedD_ints, revD_tup, two_nat, one_nat, three_nat, dCh3, dOwnC, dPutPar, putPar_two, dZip2, zip2D_lst, zip2D_tup, dPut, isBD_bl, isNotBD_bl, dNewO, dPutO, dSortedO, putKD_int, dPar3O, dParO2, par3O_two, parO2_one, minLD_lst, dKeysW, rdPairs_nil, rdPairs_cons, onPair_ii, revD_lst])
local macro_rules | `(tactic| walk_at "dd") => `(tactic| (walk_at "d1"; repeat (with_reducible (refine then_intro ?_); walk_at "d1")))
def rd_power_of_b1 : DTS :=
  (dAsg (dOp mulD (dVar 2) (dVar 0)) (gNm 2))
def rd_power_of : DTS :=
  (dSeq (dAsg (dC (.int 1)) (gNm 2)) (dSeq (dFor (dRng1 (dCons (dVar 1) dNil)) (gNm 3) rd_power_of_b1) (dRet (dVar 2))))
def sp_power_of : Lay.Spec := fun ds R => match ds with
  | [.int p, .int k] => (0 ≤ k ∧ ∃ c : Nat, c * k.toNat + c ≤ 800000 ∧ k ≤ 800000 ∧ p.natAbs < 2 ^ c) ∧ R (.int (p ^ k.toNat))
  | _ => False
theorem pow_bits {p : Int} {c : Nat} (pb : p.natAbs < 2 ^ c) : ∀ n : Nat, (p ^ n).natAbs < 2 ^ (c * n + 1) := fun n => by
  induction n with
  | zero => rw [Int.pow_zero]; show 1 < 2 ^ (c * 0 + 1); rw [Nat.mul_zero]; decide
  | succ n ih =>
    rw [Int.pow_succ]
    exact bits_mono (bits_mul ih pb) (by rw [Nat.mul_succ]; omega)
theorem ok_power_of : ∀ ds R, sp_power_of ds R → rd_power_of (fnE R) (startE 4 ds) := by
  intro ds R h
  unfold sp_power_of at h
  split at h
  · rename_i p k
    obtain ⟨⟨k0, c, hc, hk, pb⟩, h⟩ := h
    unfold rd_power_of
    walk_at "dd"
    refine ⟨by have : (800000 : Int) < 2 ^ 62 := (by decide); have : -(2 : Int) ^ 62 ≤ 0 := (by decide); omega, ?_⟩
    refine for_by (fun (s : Int × Sl) => [.val (.int p), .val (.int k), .val (.int s.1), s.2]) (fun t s => s.1 = p ^ t) (1, .un) rfl (Int.pow_zero p).symm ?_ ?_
    · rintro t d hd ⟨M, v⟩ hM bk
      simp only at hM
      obtain ⟨ht, rfl⟩ := rangeD_get hd
      have hct : c * t ≤ c * k.toNat := Nat.mul_le_mul_left c (by omega)
      unfold rd_power_of_b1
      walk_at "dd"
      refine ⟨mulOk (n := c * t + 1) (by rw [hM]; exact pow_bits pb t) pb (by omega), (_, _), rfl, ?_⟩
      show M * p = p ^ (t + 1)
      rw [hM, Int.pow_succ]
    · rintro ⟨M, v⟩ hM
      simp only [rangeD_length] at hM
      walk_at "dd"
      rw [hM]
      exact h
  · exact h.elim
theorem spx_power_of {p k : Int} {R : D → Prop} : sp_power_of [.int p, .int k] R = ((0 ≤ k ∧ ∃ c : Nat, c * k.toNat + c ≤ 800000 ∧ k ≤ 800000 ∧ p.natAbs < 2 ^ c) ∧ R (.int (p ^ k.toNat))) := rfl
local macro_rules | `(tactic| walk_at "d1") => `(tactic| try simp only [dSeq, dSkip, dPass, dRet, dRetN, dDrop, dCond, dAsg, gNm, gTp, dOwn, dOwnL, dPar, dAug, dApp, dExt, dFrz, dFor, dLc, dBreak, dCont, dVar, dC, dOp, dT, dIsi, dNeg, dNot, dTNot, dAnd, dOr, dTAnd, dTOr, dIf, dCh, dNil, dCons, dTup, dLst, dIxO, dB, dCall, dCallW, dItems, dRng1, dRng2, dYes, fnE, startE, startW, startS, dLenO, dLenS, dIxS, dSl, dPt, dNo, wipeE, addD_int, addD_str, addD_tup, addD_lst, subD_int, mulD_int, mulD_tup, mulD_lst, fdivD_int, modD_int, powD_int, shlD_int, shrD_int, andD_int, ltD_int, leD_int, gtD_int, geD_int, eqD_ap, neD_ap, isD_ap, isNotD_ap, isNon_none, isNon_int, isNon_bool, isNon_str, isNon_tup, isNon_lst, isInt_none, isInt_int, isInt_bool, isInt_str, isInt_tup, isInt_lst, isBool_none, isBool_int, isBool_bool, isBool_str, isBool_tup, isBool_lst, isStr_none, isStr_int, isStr_bool, isStr_str, isStr_tup, isStr_lst, isTup_none, isTup_int, isTup_bool, isTup_str, isTup_tup, isTup_lst, isLst_lst, Cnd_true, Cnd_false, Cnd_not, Cnd_dec, asB_bool, forall_const, true_implies, false_implies, implies_true, decide_true, decide_false, Classical.not_not, negD_int, notD_bool, onVal_val, onOwn_own, onDic_dic, onScr_scr, onWv_wv, onInt_int, onTup_tup, onLst_lst, onItems_lst, onItems_tup, frz1_own, frz1_val, frz1_un, ixD_lst, ixD_tup, ixL_int, optD_some, optI_some, absD_int, intD_int, intD_bool, lenD_lst, lenD_tup, lenD_str, tupleD_lst, tupleD_tup, listD_lst, listD_tup, min2D_int, max2D_int, sumD_ints, allD_bls, anyD_bls, slD_lst, slD_tup, slD_str, gNl_nil, gCs_cons, par2_two, seq1_lst, seq1_tup, rng1D_int, rng2D_int, gt_z, gt_s, sp_next_int, set_z, set_s, List.map_cons, List.map_nil, List.length_cons, List.length_nil, List.cons_append, List.nil_append, List.replicate, Nat.reduceAdd, Nat.reduceSub, Nat.zero_add, shaped_int, shaped_bool, shaped_none, shaped_listI, shaped_tupI, shaped_nilL, shaped_nilT, eqv_int, eqv_bool, eqv_str, eqv_none, eqv_list_nil, List.isEmpty_nil, List.isEmpty_cons, Bool.true_eq_false, Bool.false_eq_true, decide_eq_true_eq, and_self, true_and, and_true, not_dec, Bool.not_eq_true', decide_eq_false_iff_not, atI_0, atI_1, atI_2, ite_true, ite_false, if_true, if_false, reduceIte, Bool.not_true, Bool.not_false, not_true_eq_false, not_false_eq_true, List.set_cons_zero, List.set_cons_succ, dPar3, dRev, par3_three, sortedD_ints, revD_tup, two_nat, one_nat, three_nat, dCh3, dOwnC, dPutPar, putPar_two, dZip2, zip2D_lst, zip2D_tup, dPut, isBD_bl, isNotBD_bl, dNewO, dPutO, dSortedO, putKD_int, dPar3O, dParO2, par3O_two, parO2_one, minLD_lst, dKeysW, rdPairs_nil, rdPairs_cons, onPair_ii, revD_lst, spx_power_of])
local macro_rules | `(tactic| walk_at "dd") => `(tactic| (walk_at "d1"; repeat (with_reducible (refine then_intro ?_); walk_at "d1")))
def rd_law_power_v2_b1 : DTS :=
  (dAsg (dOp mulD (dVar 2) (dVar 0)) (gNm 2))
def rd_law_power_v2 : DTS :=
  (dSeq (dAsg (dC (.int 1)) (gNm 2)) (dSeq (dFor (dRng1 (dCons (dVar 1) dNil)) (gNm 3) rd_law_power_v2_b1) (dRet (dVar 2))))
def sp_law_power_v2 : Lay.Spec := fun ds R => match ds with
  | [.int p, .int k] => (0 ≤ k ∧ ∃ c : Nat, c * k.toNat + c ≤ 800000 ∧ k ≤ 800000 ∧ p.natAbs < 2 ^ c) ∧ R (.int (p ^ k.toNat))
  | _ => False
theorem ok_law_power_v2 : ∀ ds R, sp_law_power_v2 ds R → rd_law_power_v2 (fnE R) (startE 4 ds) := by
  intro ds R h
  unfold sp_law_power_v2 at h
  split at h
  · rename_i p k
    obtain ⟨⟨k0, c, hc, hk, pb⟩, h⟩ := h
    unfold rd_law_power_v2
    walk_at "dd"
    refine ⟨by have : (800000 : Int) < 2 ^ 62 := (by decide); have : -(2 : Int) ^ 62 ≤ 0 := (by decide); omega, ?_⟩
    refine for_by (fun (s : Int × Sl) => [.val (.int p), .val (.int k), .val (.int s.1), s.2]) (fun t s => s.1 = p ^ t) (1, .un) rfl (Int.pow_zero p).symm ?_ ?_
    · rintro t d hd ⟨M, v⟩ hM bk
      simp only at hM
      obtain ⟨ht, rfl⟩ := rangeD_get hd
      have hct : c * t ≤ c * k.toNat := Nat.mul_le_mul_left c (by omega)
      unfold rd_law_power_v2_b1
      walk_at "dd"
      refine ⟨mulOk (n := c * t + 1) (by rw [hM]; exact pow_bits pb t) pb (by omega), (_, _), rfl, ?_⟩
      show M * p = p ^ (t + 1)
      rw [hM, Int.pow_succ]
    · rintro ⟨M, v⟩ hM
      simp only [rangeD_length] at hM
      walk_at "dd"
      rw [hM]
      exact h
  · exact h.elim
theorem spx_law_power_v2 {p k : Int} {R : D → Prop} : sp_law_power_v2 [.int p, .int k] R = ((0 ≤ k ∧ ∃ c : Nat, c * k.toNat + c ≤ 800000 ∧ k ≤ 800000 ∧ p.natAbs < 2 ^ c) ∧ R (.int (p ^ k.toNat))) := rfl
local macro_rules | `(tactic| walk_at "d1") => `(tactic| try simp only [dSeq, dSkip, dPass, dRet, dRetN, dDrop, dCond, dAsg, gNm, gTp, dOwn, dOwnL, dPar, dAug, dApp, dExt, dFrz, dFor, dLc, dBreak, dCont, dVar, dC, dOp, dT, dIsi, dNeg, dNot, dTNot, dAnd, dOr, dTAnd, dTOr, dIf, dCh, dNil, dCons, dTup, dLst, dIxO, dB, dCall, dCallW, dItems, dRng1, dRng2, dYes, fnE, startE, startW, startS, dLenO, dLenS, dIxS, dSl, dPt, dNo, wipeE, addD_int, addD_str, addD_tup, addD_lst, subD_int, mulD_int, mulD_tup, mulD_lst, fdivD_int, modD_int, powD_int, shlD_int, shrD_int, andD_int, ltD_int, leD_int, gtD_int, geD_int, eqD_ap, neD_ap, isD_ap, isNotD_ap, isNon_none, isNon_int, isNon_bool, isNon_str, isNon_tup, isNon_lst, isInt_none, isInt_int, isInt_bool, isInt_str, isInt_tup, isInt_lst, isBool_none, isBool_int, isBool_bool, isBool_str, isBool_tup, isBool_lst, isStr_none, isStr_int, isStr_bool, isStr_str, isStr_tup, isStr_lst, isTup_none, isTup_int, isTup_bool, isTup_str, isTup_tup, isTup_lst, isLst_lst, Cnd_true, Cnd_false, Cnd_not, Cnd_dec, asB_bool, forall_const, true_implies, false_implies, implies_true, decide_true, decide_false, Classical.not_not, negD_int, notD_bool, onVal_val, onOwn_own, onDic_dic, onScr_scr, onWv_wv, onInt_int, onTup_tup, onLst_lst, onItems_lst, onItems_tup, frz1_own, frz1_val, frz1_un, ixD_lst, ixD_tup, ixL_int, optD_some, optI_some, absD_int, intD_int, intD_bool, lenD_lst, lenD_tup, lenD_str, tupleD_lst, tupleD_tup, listD_lst, listD_tup, min2D_int, max2D_int, sumD_ints, allD_bls, anyD_bls, slD_lst, slD_tup, slD_str, gNl_nil, gCs_cons, par2_two, seq1_lst, seq1_tup, rng1D_int, rng2D_int, gt_z, gt_s, sp_next_int, set_z, set_s, List.map_cons, List.map_nil, List.length_cons, List.length_nil, List.cons_append, List.nil_append, List.replicate, Nat.reduceAdd, Nat.reduceSub, Nat.zero_add, shaped_int, shaped_bool, shaped_none, shaped_listI, shaped_tupI, shaped_nilL, shaped_nilT, eqv_int, eqv_bool, eqv_str, eqv_none, eqv_list_nil, List.isEmpty_nil, List.isEmpty_cons, Bool.true_eq_false, Bool.false_eq_true, decide_eq_true_eq, and_self, true_and, and_true, not_dec, Bool.not_eq_true', decide_eq_false_iff_not, atI_0, atI_1, atI_2, ite_true, ite_false, if_true, if_false, reduceIte, Bool.not_true, Bool.not_false, not_true_eq_false, not_false_eq_true, List.set_cons_zero, List.set_cons_succ, dPar3, dRev, par3_three, sortedD_ints, revD_tup, two_nat, one_nat, three_nat, dCh3, dOwnC, dPutPar, putPar_two, dZip2, zip2D_lst, zip2D_tup, dPut, isBD_bl, isNotBD_bl, dNewO, dPutO, dSortedO, putKD_int, dPar3O, dParO2, par3O_two, parO2_one, minLD_lst, dKeysW, rdPairs_nil, rdPairs_cons, onPair_ii, revD_lst, spx_half, spx_eighth, spx_size_of, spx_without_twos, spx_mark, spx_law_plain, spx_power_of, spx_law_power_v2])
local macro_rules | `(tactic| walk_at "dd") => `(tactic| (walk_at "d1"; repeat (with_reducible (refine then_intro ?_); walk_at "d1")))
def rd_law_has_zero_b1 : DTS :=
  (dSeq (dAsg (dTup (dCons (dOp ixD (dVar 0) (dVar 6)) (dCons (dOp ixD (dVar 0) (dOp subD (dVar 6) (dC (.int 1)))) (dCons (dOp ixD (dVar 0) (dOp subD (dVar 6) (dC (.int 2)))) dNil)))) (gTp 3 (gCs (gNm 7) (gCs (gNm 8) (gCs (gNm 9) gNl))))) (dSeq (dDictO 10 (dCons (dLc true (dItems (dVar 4)) (gNm 11) dYes (dTup (dCons (dOp modD (dB intD (dCons (dOp mulD (dVar 9) (dVar 11)) dNil)) (dVar 3)) (dCons (dC (.bool true)) dNil))) [11]) dNil)) (dCond (dT (dOp neD (dLc true (dItems (dVar 4)) (gNm 11) (dT (dInO false 10 (dOp modD (dB intD (dCons (dOp subD (dOp subD (dC (.int 0)) (dVar 7)) (dOp mulD (dVar 8) (dVar 11))) dNil)) (dVar 3)))) (dVar 11) [11]) (dLst dNil))) (dRet (dC (.bool true))) dSkip)))
def rd_law_has_zero_c2 : DTS :=
  (dSeq (dAsg (dB setSortD (dCons (dLc false (dRng1 (dCons (dOp addD (dOp fdivD (dVar 3) (dC (.int 2))) (dC (.int 1))) dNil)) (gNm 5) dYes (dOp modD (dB intD (dCons (dOp mulD (dVar 5) (dVar 5)) dNil)) (dVar 3)) [5]) dNil)) (gNm 4)) (dSeq (dFor (dRng1 (dCons (dC (.int 3)) dNil)) (gNm 6) rd_law_has_zero_b1) (dRet (dC (.bool false)))))
def rd_law_has_zero_c1 : DTS :=
  (dSeq (dAsg (dLc true (dItems (dVar 0)) (gNm 2) dYes (dCall sp_law_plain (dCons (dVar 2) (dCons (dVar 1) dNil))) [2]) (gNm 0)) (dSeq (dAsg (dCall sp_law_power_v2 (dCons (dVar 1) (dCons (dIf (dT (dOp eqD (dVar 1) (dC (.int 2)))) (dC (.int 6)) (dIf (dT (dOp ltD (dVar 1) (dC (.int 12)))) (dC (.int 3)) (dC (.int 2)))) dNil))) (gNm 3)) rd_law_has_zero_c2))
def rd_law_has_zero : DTS :=
  (dSeq (dCond (dT (dOp eqD (dVar 1) (dC (.int 0)))) (dRet (dAnd (dOp ltD (dB minD (dCons (dVar 0) dNil)) (dC (.int 0))) (dOp gtD (dB maxD (dCons (dVar 0) dNil)) (dC (.int 0))))) dSkip) rd_law_has_zero_c1)
def expo (p : Nat) : Nat := if p = 2 then 6 else if p < 12 then 3 else 2
def HasZ (p : Nat) (a b c : Int) : Prop := if p = 0 then min (min a b) c < 0 ∧ max (max a b) c > 0 else ZeroM ((p : Int) ^ expo p) (plainI p a) (plainI p b) (plainI p c)
def sp_law_has_zero : Lay.Spec := fun ds R => match ds with
  | [.tuple [.int a, .int b, .int c], .int p] => (a ≠ 0 ∧ b ≠ 0 ∧ c ≠ 0 ∧ a.natAbs < 2 ^ 500 ∧ b.natAbs < 2 ^ 500 ∧ c.natAbs < 2 ^ 500 ∧ 0 ≤ p ∧ p ≤ 89 ∧ (p = 0 ∨ AnyP p.toNat)) ∧ ∀ t : Bool, (t = true ↔ HasZ p.toNat a b c) → R (.bool t)
  | _ => False
def Hit (ms : List Int) (m x y z : Int) : Prop := ∃ s ∈ ms, (0 - x - y * s) % m ∈ ms.map fun s => z * s % m
theorem hz_body {K : DEnds} {A B C x y z m k p : Int} {ms : List Int} {s2 s5 s7 s8 s9 s10 s11 : Sl} (hm : 0 < m) (mb : m ≤ 10000) (hms : ∀ s ∈ ms, 0 ≤ s ∧ s < m) (xb : x.natAbs < 2 ^ 500) (yb : y.natAbs < 2 ^ 500) (zb : z.natAbs < 2 ^ 500)
    (e1 : atI [PyData.int A, .int B, .int C] k = some (.int x)) (e2 : atI [PyData.int A, .int B, .int C] (k - 1) = some (.int y)) (e3 : atI [PyData.int A, .int B, .int C] (k - 2) = some (.int z))
    (h1 : Hit ms m x y z → K.rt (.bool true)) (h2 : ¬ Hit ms m x y z → ∀ t7 t8 t9 t10 t11, K.nx [.val (.list [.int A, .int B, .int C]), .val (.int p), s2, .val (.int m), .val (.list (ms.map .int)), s5, .val (.int k), t7, t8, t9, t10, t11]) :
    rd_law_has_zero_b1 K [.val (.list [.int A, .int B, .int C]), .val (.int p), s2, .val (.int m), .val (.list (ms.map .int)), s5, .val (.int k), s7, s8, s9, s10, s11] := by
  have sb : ∀ s ∈ ms, s.natAbs < 2 ^ 14 := fun s hs => by
    have := hms s hs
    have : 10000 < 2 ^ 14 := by decide
    omega
  unfold rd_law_has_zero_b1
  walk_at "dd"
  rw [e1, e2, e3]
  walk_at "dd"
  unfold dDictO
  walk_at "dd"
  refine lc_map (f := PyData.int) (k := pairD2) (p := fun s => some (z * s % m, PyData.bool true)) (fun z => nomatch z) (fun s hs P hP => ?_) ?_
  · have := sb s hs
    walk_at "dd"
    rw [fmod_pos _ hm]
    exact ⟨mulOk (n := 500) (m := 14) zb this (by decide), by omega, hP⟩
  · rw [List.filterMap_eq_map']
    refine ⟨_, rfl, fun kvs hk => ?_⟩
    rw [List.map_map] at hk
    have hk' : ∀ j : Int, hasK kvs (.inl j) = decide (j ∈ ms.map fun s => z * s % m) := hk
    refine then_intro ?_
    walk_at "dd"
    refine lc_ints (fun s => decide ((0 - x - y * s) % m ∈ ms.map fun s => z * s % m)) (fun z => nomatch z) (fun s hs P hP => ?_) ?_
    · have := sb s hs
      unfold dInO
      walk_at "dd"
      rw [fmod_pos _ hm]
      refine ⟨mulOk (n := 500) (m := 14) yb this (by decide), by omega, ?_⟩
      unfold keyIn
      simp only [hk']
      walk_at "dd"
      refine ⟨fun q => ?_, fun q => ?_⟩
      · rw [decide_eq_true q] at hP
        exact hP
      · rw [decide_eq_false q] at hP
        exact hP
    · walk_at "dd"
      rw [List.isEmpty_map]
      have key : (ms.filter fun s => decide ((0 - x - y * s) % m ∈ ms.map fun s => z * s % m)).isEmpty = true ↔ ¬ Hit ms m x y z := by
        rw [List.isEmpty_iff, List.filter_eq_nil_iff]
        constructor
        · rintro h ⟨s, hs, q⟩
          exact h s hs (decide_eq_true q)
        · intro h s hs q
          exact h ⟨s, hs, of_decide_eq_true q⟩
      cases hem : (ms.filter fun s => decide ((0 - x - y * s) % m ∈ ms.map fun s => z * s % m)).isEmpty with
      | true => exact h2 (key.mp hem) _ _ _ _ _
      | false => exact h1 (Classical.byContradiction fun w => by rw [key.mpr w] at hem; cases hem)
/-- a hit is a zero with the first letter 1 -/
theorem hit_zero {ms : List Int} {m x y z : Int} (hm : 0 < m) (hms : ∀ s, s ∈ ms ↔ ∃ t : Int, s = t * t % m) : Hit ms m x y z ↔ ∃ t u : Int, m ∣ x + y * (t * t) + z * (u * u) := by
  constructor
  · rintro ⟨s, hs, q⟩
    obtain ⟨s', hs', e⟩ := List.mem_map.mp q
    obtain ⟨t, rfl⟩ := (hms s).mp hs
    obtain ⟨u, rfl⟩ := (hms s').mp hs'
    refine ⟨t, u, ?_⟩
    have d := Int.dvd_of_emod_eq_zero (Int.emod_eq_emod_iff_emod_sub_eq_zero.mp e)
    have d1 := Int.dvd_mul_of_dvd_right (b := z) (modc (u * u) m)
    have d2 := Int.dvd_mul_of_dvd_right (b := y) (modc (t * t) m)
    have := Int.dvd_sub (Int.dvd_sub d d1) d2
    rwa [show z * (u * u % m) - (0 - x - y * (t * t % m)) - z * (u * u % m - u * u) - y * (t * t % m - t * t) = x + y * (t * t) + z * (u * u) by grind] at this
  · rintro ⟨t, u, h⟩
    refine ⟨t * t % m, (hms _).mpr ⟨t, rfl⟩, List.mem_map.mpr ⟨u * u % m, (hms _).mpr ⟨u, rfl⟩, ?_⟩⟩
    refine Int.emod_eq_emod_iff_emod_sub_eq_zero.mpr (Int.emod_eq_zero_of_dvd ?_)
    have d1 := Int.dvd_mul_of_dvd_right (b := z) (modc (u * u) m)
    have d2 := Int.dvd_mul_of_dvd_right (b := y) (modc (t * t) m)
    have := Int.dvd_add (Int.dvd_add h d1) d2
    rwa [show x + y * (t * t) + z * (u * u) + z * (u * u % m - u * u) + y * (t * t % m - t * t) = z * (u * u % m) - (0 - x - y * (t * t % m)) by grind] at this
theorem zeroM_hits {m A B C : Int} : ZeroM m A B C ↔ (∃ t u : Int, m ∣ A + C * (t * t) + B * (u * u)) ∨ (∃ t u : Int, m ∣ B + A * (t * t) + C * (u * u)) ∨ ∃ t u : Int, m ∣ C + B * (t * t) + A * (u * u) := by
  constructor
  · rintro ⟨x, y, z, hc, h⟩
    rcases hc with rfl | rfl | rfl
    · exact .inl ⟨z, y, by rwa [show A + C * (z * z) + B * (y * y) = A * (1 * 1) + B * (y * y) + C * (z * z) by omega]⟩
    · exact .inr (.inl ⟨x, z, by rwa [show B + A * (x * x) + C * (z * z) = A * (x * x) + B * (1 * 1) + C * (z * z) by omega]⟩)
    · exact .inr (.inr ⟨y, x, by rwa [show C + B * (y * y) + A * (x * x) = A * (x * x) + B * (y * y) + C * (1 * 1) by omega]⟩)
  · rintro (⟨t, u, h⟩ | ⟨t, u, h⟩ | ⟨t, u, h⟩)
    · exact ⟨1, u, t, .inl rfl, by rwa [show A * (1 * 1) + B * (u * u) + C * (t * t) = A + C * (t * t) + B * (u * u) by omega]⟩
    · exact ⟨t, 1, u, .inr (.inl rfl), by rwa [show A * (t * t) + B * (1 * 1) + C * (u * u) = B + A * (t * t) + C * (u * u) by omega]⟩
    · exact ⟨u, t, 1, .inr (.inr rfl), by rwa [show A * (u * u) + B * (t * t) + C * (1 * 1) = C + B * (t * t) + A * (u * u) by omega]⟩
theorem hz_c2 {R : D → Prop} {A B C p : Int} {m : Nat} {s2 s4 s5 s6 s7 s8 s9 s10 s11 : Sl} (m0 : 0 < m) (mb : m ≤ 7921) (ab : A.natAbs < 2 ^ 500) (bb : B.natAbs < 2 ^ 500) (cb : C.natAbs < 2 ^ 500)
    (h : ∀ t : Bool, (t = true ↔ ZeroM m A B C) → R (.bool t)) :
    rd_law_has_zero_c2 { nx := fun x => R PyData.none, rt := R } [.val (.list [.int A, .int B, .int C]), .val (.int p), s2, .val (.int m), s4, s5, s6, s7, s8, s9, s10, s11] := by
  have hp62 : (10000 : Int) < 2 ^ 62 := by decide
  have hm62 : -(2 : Int) ^ 62 ≤ 0 := by decide
  unfold rd_law_has_zero_c2
  walk_at "dd"
  rw [fdiv_pos _ (by decide)]
  refine ⟨divOk (by decide) (n := 3) (by decide) (by decide), by omega, ?_⟩
  rw [show ((m : Int) / 2 + 1).toNat = m / 2 + 1 by omega, rangeD_ints]
  refine lc_map (f := PyData.int) (k := PyData.int) (p := fun x => some (x * x % (m : Int))) (fun _ => by rw [List.length_map, List.length_range, sizeLine_eq]; omega) (fun x hx P hP => ?_) ?_
  · obtain ⟨i, hi, rfl⟩ := List.mem_map.mp hx
    rw [List.mem_range] at hi
    walk_at "dd"
    rw [fmod_pos _ (by omega)]
    exact ⟨mulOk (n := 25) (m := 25) (by omega) (by omega) (by decide), by omega, hP⟩
  · rw [List.filterMap_eq_map']
    refine ⟨_, rfl, by rw [List.length_map, List.length_map, List.length_range]; omega, fun ms hasc mem hml => ?_⟩
    have hsq : ∀ s, s ∈ ms ↔ ∃ t : Int, s = t * t % (m : Int) := fun s => by
      rw [mem, List.mem_map]
      constructor
      · rintro ⟨x, _, rfl⟩
        exact ⟨x, rfl⟩
      · rintro ⟨t, rfl⟩
        have r0 := Int.emod_nonneg t (show (m : Int) ≠ 0 by omega)
        have r1 := Int.emod_lt_of_pos t (show (0 : Int) < m by omega)
        by_cases z : t % (m : Int) ≤ (m : Int) / 2
        · refine ⟨t % m, List.mem_map.mpr ⟨(t % (m : Int)).toNat, by rw [List.mem_range]; omega, by omega⟩, ?_⟩
          exact (Int.mul_emod t t m).symm
        · refine ⟨m - t % m, List.mem_map.mpr ⟨((m : Int) - t % (m : Int)).toNat, by rw [List.mem_range]; omega, by omega⟩, ?_⟩
          rw [Int.mul_emod t t m]
          refine Int.emod_eq_emod_iff_emod_sub_eq_zero.mpr (Int.emod_eq_zero_of_dvd ⟨(m : Int) - 2 * (t % m), ?_⟩)
          grind
    have hms : ∀ s ∈ ms, 0 ≤ s ∧ s < (m : Int) := fun s hs => by
      obtain ⟨t, rfl⟩ := (hsq s).mp hs
      exact ⟨Int.emod_nonneg _ (by omega), Int.emod_lt_of_pos _ (by omega)⟩
    have hh := fun x y z : Int => hit_zero (ms := ms) (m := (m : Int)) (x := x) (y := y) (z := z) (by omega) hsq
    have hz := zeroM_hits (m := (m : Int)) (A := A) (B := B) (C := C)
    rw [← hh A C B, ← hh B A C, ← hh C B A] at hz
    refine then_intro ?_
    walk_at "dd"
    refine ⟨by decide, ?_⟩
    rw [show rangeD 0 (Int.toNat 3) = [.int 0, .int 1, .int 2] from rfl]
    refine for_unroll ?_
    have yes : Hit ms m A C B ∨ Hit ms m B A C ∨ Hit ms m C B A → R (.bool true) := fun w => h true ⟨fun _ => hz.mpr w, fun _ => rfl⟩
    have no : ¬ (Hit ms m A C B ∨ Hit ms m B A C ∨ Hit ms m C B A) → R (.bool false) := fun w => h false ⟨(fun z => nomatch z), fun z => absurd (hz.mp z) w⟩
    simp only [forL, gNm, List.set_cons_succ, List.set_cons_zero]
    refine hz_body (x := A) (y := C) (z := B) (by omega) (by omega) hms ab cb bb rfl rfl rfl ?_ fun n1 t7 t8 t9 t10 t11 => ?_
    · exact fun w => yes (.inl w)
    simp only [List.set_cons_succ, List.set_cons_zero]
    refine hz_body (x := B) (y := A) (z := C) (by omega) (by omega) hms bb ab cb rfl rfl rfl ?_ fun n2 t7 t8 t9 t10 t11 => ?_
    · exact fun w => yes (.inr (.inl w))
    simp only [List.set_cons_succ, List.set_cons_zero]
    refine hz_body (x := C) (y := B) (z := A) (by omega) (by omega) hms cb bb ab rfl rfl rfl ?_ fun n3 t7 t8 t9 t10 t11 => ?_
    · exact fun w => yes (.inr (.inr w))
    show Then _ _ _
    refine then_intro ?_
    walk_at "dd"
    exact no fun w => w.elim n1 fun w => w.elim n2 n3
theorem ok_law_has_zero : ∀ ds R, sp_law_has_zero ds R → rd_law_has_zero (fnE R) (startE 12 ds) := by
  intro ds R h
  unfold sp_law_has_zero at h
  split at h
  · rename_i a b c p
    obtain ⟨⟨a0, b0, c0, ab, bb, cb, p0, pb, hp⟩, h⟩ := h
    obtain ⟨p, rfl⟩ : ∃ m : Nat, p = (m : Int) := ⟨p.toNat, by omega⟩
    rw [Int.toNat_natCast] at hp h
    unfold HasZ at h
    unfold rd_law_has_zero
    walk_at "dd"
    refine ⟨fun z => ?_, fun z => then_intro ?_⟩
    · rw [if_pos (by omega)] at h
      unfold minD maxD best3D
      walk_at "dd"
      refine ⟨fun x => ?_, fun x => ?_⟩
      · refine h _ ?_
        rw [decide_eq_true_eq]
        exact ⟨fun y => ⟨x, y⟩, fun y => y.2⟩
      · exact h false ⟨(fun w => nomatch w), fun w => absurd w.1 x⟩
    · have hp : AnyP p := hp.resolve_left z
      have p2 := hp.pr.1
      rw [if_neg (by omega)] at h
      have pb2 : (p : Int).natAbs < 2 ^ 2000 := Nat.lt_of_lt_of_le (show _ < 128 by omega) (Nat.pow_le_pow_right (n := 2) (i := 7) (j := 2000) (by decide) (by decide))
      have pl : ∀ {n : Int}, n ≠ 0 → (plainI p n).natAbs ≤ n.natAbs := fun {n} hn => (tkI_le (p := p * p) (Nat.le_trans p2 (Nat.le_mul_of_pos_left p (by omega))) hn).1
      have la := pl a0
      have lb := pl b0
      have lc := pl c0
      unfold rd_law_has_zero_c1
      walk_at "dd"
      rw [show [PyData.int a, .int b, .int c] = [a, b, c].map PyData.int from rfl]
      refine lc_map (f := PyData.int) (k := PyData.int) (p := fun n => some (plainI p n)) (fun z => nomatch z) (fun n hn P hP => ?_) ?_
      · have hn' : n ≠ 0 ∧ n.natAbs < 2 ^ 999 := by
          simp only [List.mem_cons, List.not_mem_nil, or_false] at hn
          rcases hn with rfl | rfl | rfl
          · exact ⟨a0, bits_mono ab (by decide)⟩
          · exact ⟨b0, bits_mono bb (by decide)⟩
          · exact ⟨c0, bits_mono cb (by decide)⟩
        walk_at "dd"
        refine ⟨⟨hn'.1, by omega, hn'.2, pb2⟩, ?_⟩
        rw [Int.toNat_natCast]
        exact hP
      · rw [List.filterMap_eq_map', show ([a, b, c].map (plainI p)).map PyData.int = [.int (plainI p a), .int (plainI p b), .int (plainI p c)] from rfl]
        have fin : ∀ e : Nat, e = expo p → rd_law_has_zero_c2 { nx := fun x => R PyData.none, rt := R } [.val (.list [.int (plainI p a), .int (plainI p b), .int (plainI p c)]), .val (.int p), .un, .val (.int ((p : Int) ^ e)), .un, .un, .un, .un, .un, .un, .un, .un] := fun e he => by
          subst he
          rw [← Int.natCast_pow]
          rw [← Int.natCast_pow] at h
          have hm : p ^ expo p ≤ 7921 := by
            unfold expo
            split
            · rename_i q; subst q; decide
            · split
              · exact Nat.le_trans (Nat.pow_le_pow_left (show p ≤ 11 by omega) 3) (by decide)
              · exact Nat.le_trans (Nat.pow_le_pow_left (show p ≤ 89 by omega) 2) (by decide)
          exact hz_c2 (Nat.pow_pos (by omega)) hm (by omega) (by omega) (by omega) h
        refine then_intro ?_
        walk_at "dd"
        have p7 : (p : Int).natAbs < 2 ^ 7 := by
          have : (2 : Nat) ^ 7 = 128 := rfl
          omega
        refine ⟨fun q => ⟨⟨by decide, 7, by decide, by decide, p7⟩, then_intro (fin 6 ?_)⟩, fun q => ⟨fun w => ⟨⟨by decide, 7, by decide, by decide, p7⟩, then_intro (fin 3 ?_)⟩, fun w => ⟨⟨by decide, 7, by decide, by decide, p7⟩, then_intro (fin 2 ?_)⟩⟩⟩
        · unfold expo; rw [if_pos (by omega)]
        · unfold expo; rw [if_neg (by omega), if_pos (by omega)]
        · unfold expo; rw [if_neg (by omega), if_neg (by omega)]
  · exact h.elim
local macro_rules | `(tactic| walk_at "d1") => `(tactic| try simp only [dSeq, dSkip, dPass, dRet, dRetN, dDrop, dCond, dAsg, gNm, gTp, dOwn, dOwnL, dPar, dAug, dApp, dExt, dFrz, dFor, dLc, dBreak, dCont, dVar, dC, dOp, dT, dIsi, dNeg, dNot, dTNot, dAnd, dOr, dTAnd, dTOr, dIf, dCh, dNil, dCons, dTup, dLst, dIxO, dB, dCall, dCallW, dItems, dRng1, dRng2, dYes, fnE, startE, startW, startS, dLenO, dLenS, dIxS, dSl, dPt, dNo, wipeE, addD_int, addD_str, addD_tup, addD_lst, subD_int, mulD_int, mulD_tup, mulD_lst, fdivD_int, modD_int, powD_int, shlD_int, shrD_int, andD_int, ltD_int, leD_int, gtD_int, geD_int, eqD_ap, neD_ap, isD_ap, isNotD_ap, isNon_none, isNon_int, isNon_bool, isNon_str, isNon_tup, isNon_lst, isInt_none, isInt_int, isInt_bool, isInt_str, isInt_tup, isInt_lst, isBool_none, isBool_int, isBool_bool, isBool_str, isBool_tup, isBool_lst, isStr_none, isStr_int, isStr_bool, isStr_str, isStr_tup, isStr_lst, isTup_none, isTup_int, isTup_bool, isTup_str, isTup_tup, isTup_lst, isLst_lst, Cnd_true, Cnd_false, Cnd_not, Cnd_dec, asB_bool, forall_const, true_implies, false_implies, implies_true, decide_true, decide_false, Classical.not_not, negD_int, notD_bool, onVal_val, onOwn_own, onDic_dic, onScr_scr, onWv_wv, onInt_int, onTup_tup, onLst_lst, onItems_lst, onItems_tup, frz1_own, frz1_val, frz1_un, ixD_lst, ixD_tup, ixL_int, optD_some, optI_some, absD_int, intD_int, intD_bool, lenD_lst, lenD_tup, lenD_str, tupleD_lst, tupleD_tup, listD_lst, listD_tup, min2D_int, max2D_int, sumD_ints, allD_bls, anyD_bls, slD_lst, slD_tup, slD_str, gNl_nil, gCs_cons, par2_two, seq1_lst, seq1_tup, rng1D_int, rng2D_int, gt_z, gt_s, sp_next_int, set_z, set_s, List.map_cons, List.map_nil, List.length_cons, List.length_nil, List.cons_append, List.nil_append, List.replicate, Nat.reduceAdd, Nat.reduceSub, Nat.zero_add, shaped_int, shaped_bool, shaped_none, shaped_listI, shaped_tupI, shaped_nilL, shaped_nilT, eqv_int, eqv_bool, eqv_str, eqv_none, eqv_list_nil, List.isEmpty_nil, List.isEmpty_cons, Bool.true_eq_false, Bool.false_eq_true, decide_eq_true_eq, and_self, true_and, and_true, not_dec, Bool.not_eq_true', decide_eq_false_iff_not, atI_0, atI_1, atI_2, ite_true, ite_false, if_true, if_false, reduceIte, Bool.not_true, Bool.not_false, not_true_eq_false, not_false_eq_true, List.set_cons_zero, List.set_cons_succ, dPar3, dRev, par3_three, sortedD_ints, revD_tup, two_nat, one_nat, three_nat, dCh3, dOwnC, dPutPar, putPar_two, dZip2, zip2D_lst, zip2D_tup, dPut, isBD_bl, isNotBD_bl, dNewO, dPutO, dSortedO, putKD_int, dPar3O, dParO2, par3O_two, parO2_one, minLD_lst, dKeysW, rdPairs_nil, rdPairs_cons, onPair_ii, revD_lst, spx_half, spx_eighth, spx_size_of, spx_without_twos, spx_mark, spx_law_plain, spx_power_of, spx_law_power_v2])
local macro_rules | `(tactic| walk_at "dd") => `(tactic| (walk_at "d1"; repeat (with_reducible (refine then_intro ?_); walk_at "d1")))
theorem plain_neg_one {p : Nat} (hp : 2 ≤ p) : plainI p (-1) = -1 := by
  unfold plainI
  have h4 : 2 ≤ p * p := Nat.le_trans hp (Nat.le_mul_of_pos_left p (by omega))
  rw [tkI_none fun d => by
    have := Int.dvd_neg.mp d
    have := Int.le_of_dvd (by decide) this
    omega]
theorem hasZ_hil {p : Nat} (hp : p = 0 ∨ AnyP p) {a b : Int} (ha : a ≠ 0) (hb : b ≠ 0) : HasZ p a b (-1) ↔ hil p a b = 1 := by
  unfold HasZ
  rcases hp with rfl | rfl | hp
  · rw [if_pos rfl]
    unfold hil
    rw [if_pos rfl]
    split
    · exact ⟨fun h => by omega, fun h => absurd h (by decide)⟩
    · exact ⟨fun _ => rfl, fun _ => by omega⟩
  · rw [if_neg (by decide), plain_neg_one (by decide)]
    exact hil_two ha hb
  · have h3 := hp.three
    rw [if_neg (by omega), plain_neg_one (by omega)]
    refine hil_odd hp ?_ ha hb
    unfold expo
    split
    · omega
    · split <;> decide
theorem hil_vals {p : Nat} (hp : p = 0 ∨ AnyP p) {a b : Int} (ha : a ≠ 0) (hb : b ≠ 0) : hil p a b = 1 ∨ hil p a b = -1 := by
  unfold hil
  split
  · split
    · exact .inr rfl
    · exact .inl rfl
  · rename_i p0
    have hp := hp.resolve_left p0
    split
    · split
      · exact .inl rfl
      · exact .inr rfl
    · rename_i p2
      have ho : OddP p := hp.resolve_left p2
      obtain ⟨_, _, hu⟩ := tkI_spec hp.pr.1 ha
      obtain ⟨_, _, hv⟩ := tkI_spec hp.pr.1 hb
      have h1 := leg_ne hu
      have h2 := leg_ne hv
      generalize leg p (tkI p a).1 = x at *
      generalize leg p (tkI p b).1 = y at *
      rcases h1 with rfl | rfl <;> rcases h2 with rfl | rfl <;> split <;> split <;> split <;> decide
local macro_rules | `(tactic| walk_at "d1") => `(tactic| try simp only [dSeq, dSkip, dPass, dRet, dRetN, dDrop, dCond, dAsg, gNm, gTp, dOwn, dOwnL, dPar, dAug, dApp, dExt, dFrz, dFor, dLc, dBreak, dCont, dVar, dC, dOp, dT, dIsi, dNeg, dNot, dTNot, dAnd, dOr, dTAnd, dTOr, dIf, dCh, dNil, dCons, dTup, dLst, dIxO, dB, dCall, dCallW, dItems, dRng1, dRng2, dYes, fnE, startE, startW, startS, dLenO, dLenS, dIxS, dSl, dPt, dNo, wipeE, addD_int, addD_str, addD_tup, addD_lst, subD_int, mulD_int, mulD_tup, mulD_lst, fdivD_int, modD_int, powD_int, shlD_int, shrD_int, andD_int, ltD_int, leD_int, gtD_int, geD_int, eqD_ap, neD_ap, isD_ap, isNotD_ap, isNon_none, isNon_int, isNon_bool, isNon_str, isNon_tup, isNon_lst, isInt_none, isInt_int, isInt_bool, isInt_str, isInt_tup, isInt_lst, isBool_none, isBool_int, isBool_bool, isBool_str, isBool_tup, isBool_lst, isStr_none, isStr_int, isStr_bool, isStr_str, isStr_tup, isStr_lst, isTup_none, isTup_int, isTup_bool, isTup_str, isTup_tup, isTup_lst, isLst_lst, Cnd_true, Cnd_false, Cnd_not, Cnd_dec, asB_bool, forall_const, true_implies, false_implies, implies_true, decide_true, decide_false, Classical.not_not, negD_int, notD_bool, onVal_val, onOwn_own, onDic_dic, onScr_scr, onWv_wv, onInt_int, onTup_tup, onLst_lst, onItems_lst, onItems_tup, frz1_own, frz1_val, frz1_un, ixD_lst, ixD_tup, ixL_int, optD_some, optI_some, absD_int, intD_int, intD_bool, lenD_lst, lenD_tup, lenD_str, tupleD_lst, tupleD_tup, listD_lst, listD_tup, min2D_int, max2D_int, sumD_ints, allD_bls, anyD_bls, slD_lst, slD_tup, slD_str, gNl_nil, gCs_cons, par2_two, seq1_lst, seq1_tup, rng1D_int, rng2D_int, gt_z, gt_s, sp_next_int, set_z, set_s, List.map_cons, List.map_nil, List.length_cons, List.length_nil, List.cons_append, List.nil_append, List.replicate, Nat.reduceAdd, Nat.reduceSub, Nat.zero_add, shaped_int, shaped_bool, shaped_none, shaped_listI, shaped_tupI, shaped_nilL, shaped_nilT, eqv_int, eqv_bool, eqv_str, eqv_none, eqv_list_nil, List.isEmpty_nil, List.isEmpty_cons, Bool.true_eq_false, Bool.false_eq_true, decide_eq_true_eq, and_self, true_and, and_true, not_dec, Bool.not_eq_true', decide_eq_false_iff_not, atI_0, atI_1, atI_2, ite_true, ite_false, if_true, if_false, reduceIte, Bool.not_true, Bool.not_false, not_true_eq_false, not_false_eq_true, List.set_cons_zero, List.set_cons_succ, dPar3, dRev, par3_three, sortedD_ints, revD_tup, two_nat, one_nat, three_nat, dCh3, dOwnC, dPutPar, putPar_two, dZip2, zip2D_lst, zip2D_tup, dPut, isBD_bl, isNotBD_bl, dNewO, dPutO, dSortedO, putKD_int, dPar3O, dParO2, par3O_two, parO2_one, minLD_lst, dKeysW, rdPairs_nil, rdPairs_cons, onPair_ii, revD_lst, spx_half, spx_eighth, spx_size_of, spx_without_twos, spx_mark, spx_law_plain, spx_power_of, spx_law_power_v2])
local macro_rules | `(tactic| walk_at "dd") => `(tactic| (walk_at "d1"; repeat (with_reducible (refine then_intro ?_); walk_at "d1")))
theorem tkI_prod {p : Nat} (hp : PrimeI p) {a b : Int} (ha : a ≠ 0) (hb : b ≠ 0) : tkI p (a * b) = ((tkI p a).1 * (tkI p b).1, (tkI p a).2 + (tkI p b).2) := by
  obtain ⟨e1, _, hu⟩ := tkI_spec hp.1 ha
  obtain ⟨e2, _, hv⟩ := tkI_spec hp.1 hb
  have hn : ¬ (p : Int) ∣ (tkI p a).1 * (tkI p b).1 := fun d => (hp.euclid d).elim hu hv
  have e : a * b = (tkI p a).1 * (tkI p b).1 * (p : Int) ^ ((tkI p a).2 + (tkI p b).2) := by
    rw [Int.pow_add]
    conv => lhs; rw [e1, e2]
    grind
  conv => lhs; rw [e]
  exact tkI_pow hp.1 hn _
theorem odd_of_two {u : Int} (h : ¬ ((2 : Nat) : Int) ∣ u) : u % 2 = 1 := by omega
theorem half_mul {u v : Int} (hu : u % 2 = 1) (hv : v % 2 = 1) : (halfI (u * v) - halfI u - halfI v) % 2 = 0 := by
  obtain ⟨x, rfl⟩ : ∃ x, u = 2 * x + 1 := ⟨u / 2, by omega⟩
  obtain ⟨y, rfl⟩ : ∃ y, v = 2 * y + 1 := ⟨v / 2, by omega⟩
  unfold halfI
  have e : (2 * x + 1) * (2 * y + 1) - 1 = 2 * (2 * (x * y) + x + y) := by grind
  rw [e]
  generalize x * y = w
  omega
theorem eighth_mul {u v : Int} (hu : u % 2 = 1) (hv : v % 2 = 1) : (eighthI (u * v) - eighthI u - eighthI v) % 2 = 0 := by
  unfold eighthI
  rw [Int.mul_emod]
  have h1 : u % 8 = 1 ∨ u % 8 = 3 ∨ u % 8 = 5 ∨ u % 8 = 7 := by omega
  have h2 : v % 8 = 1 ∨ v % 8 = 3 ∨ v % 8 = 5 ∨ v % 8 = 7 := by omega
  rcases h1 with e1 | e1 | e1 | e1 <;> rcases h2 with e2 | e2 | e2 | e2 <;> rw [e1, e2] <;> decide
def sgnE (n : Int) : Int := if n % 2 = 0 then 1 else -1
theorem sgnE_add (m n : Int) : sgnE (m + n) = sgnE m * sgnE n := by
  unfold sgnE
  split <;> split <;> split <;> omega
theorem sgnE_cong {m n : Int} (h : (m - n) % 2 = 0) : sgnE m = sgnE n := by
  unfold sgnE
  split <;> split <;> omega
def expE (a b : Int) : Int := halfI (tkI 2 a).1 * halfI (tkI 2 b).1 + ((tkI 2 a).2 : Int) * eighthI (tkI 2 b).1 + ((tkI 2 b).2 : Int) * eighthI (tkI 2 a).1
theorem hil_at_two (a b : Int) : hil 2 a b = sgnE (expE a b) := by
  unfold hil
  rw [if_neg (by decide), if_pos rfl]
  rfl
theorem hil_at_odd {p : Nat} (hp : OddP p) (a b : Int) : hil p a b = (if (tkI p a).2 % 2 = 1 ∧ (tkI p b).2 % 2 = 1 ∧ p % 4 = 3 then -1 else 1) * (if (tkI p b).2 % 2 = 1 then leg p (tkI p a).1 else 1) * (if (tkI p a).2 % 2 = 1 then leg p (tkI p b).1 else 1) := by
  have := hp.three
  unfold hil
  rw [if_neg (by omega), if_neg hp.ne]
/-- a place: 0 or a prime -/
def Plc (p : Nat) : Prop := p = 0 ∨ AnyP p
theorem hil_sym {p : Nat} (hp : Plc p) (a b : Int) : hil p a b = hil p b a := by
  rcases hp with rfl | rfl | hp
  · unfold hil
    rw [if_pos rfl, if_pos rfl]
    split <;> split <;> omega
  · rw [hil_at_two, hil_at_two]
    refine congrArg _ ?_
    unfold expE
    rw [Int.mul_comm (halfI (tkI 2 a).1)]
    omega
  · rw [hil_at_odd hp, hil_at_odd hp]
    generalize leg p (tkI p a).1 = x
    generalize leg p (tkI p b).1 = y
    split <;> split <;> split <;> split <;> grind
theorem hil_mul {p : Nat} (hp : Plc p) {a c b : Int} (ha : a ≠ 0) (hc : c ≠ 0) (hb : b ≠ 0) : hil p (a * c) b = hil p a b * hil p c b := by
  rcases hp with rfl | rfl | hp
  · unfold hil
    rw [if_pos rfl, if_pos rfl, if_pos rfl]
    rcases Int.lt_or_gt_of_ne ha with h1 | h1 <;> rcases Int.lt_or_gt_of_ne hc with h2 | h2
    · have := Int.mul_pos_of_neg_of_neg h1 h2
      rw [if_neg (by omega)]
      by_cases z : b < 0
      · rw [if_pos ⟨h1, z⟩, if_pos ⟨h2, z⟩]; rfl
      · rw [if_neg (fun w => z w.2), if_neg (fun w => z w.2)]; rfl
    · have := Int.mul_neg_of_neg_of_pos h1 h2
      rw [if_neg (by omega : ¬ (c < 0 ∧ b < 0))]
      by_cases z : b < 0
      · rw [if_pos ⟨this, z⟩, if_pos ⟨h1, z⟩]; rfl
      · rw [if_neg (fun w => z w.2), if_neg (fun w => z w.2)]; rfl
    · have := Int.mul_neg_of_pos_of_neg h1 h2
      rw [if_neg (by omega : ¬ (a < 0 ∧ b < 0))]
      by_cases z : b < 0
      · rw [if_pos ⟨this, z⟩, if_pos ⟨h2, z⟩]; rfl
      · rw [if_neg (fun w => z w.2), if_neg (fun w => z w.2)]; rfl
    · have := Int.mul_pos h1 h2
      rw [if_neg (by omega), if_neg (by omega), if_neg (by omega)]; rfl
  · rw [hil_at_two, hil_at_two, hil_at_two, ← sgnE_add]
    refine sgnE_cong ?_
    unfold expE
    rw [tkI_prod prime_two ha hc]
    obtain ⟨_, _, hu⟩ := tkI_spec prime_two.1 ha
    obtain ⟨_, _, hv⟩ := tkI_spec prime_two.1 hc
    have h1 := half_mul (odd_of_two hu) (odd_of_two hv)
    have h2 := eighth_mul (odd_of_two hu) (odd_of_two hv)
    simp only
    generalize halfI ((tkI 2 a).1 * (tkI 2 c).1) = x at *
    generalize eighthI ((tkI 2 a).1 * (tkI 2 c).1) = y at *
    generalize halfI (tkI 2 a).1 = x1 at *
    generalize halfI (tkI 2 c).1 = x2 at *
    generalize eighthI (tkI 2 a).1 = y1 at *
    generalize eighthI (tkI 2 c).1 = y2 at *
    obtain ⟨s, hs⟩ : ∃ s, x = x1 + x2 + 2 * s := ⟨(x - x1 - x2) / 2, by omega⟩
    obtain ⟨t, ht⟩ : ∃ t, y = y1 + y2 + 2 * t := ⟨(y - y1 - y2) / 2, by omega⟩
    subst hs ht
    rw [Int.natCast_add]
    refine Int.emod_eq_zero_of_dvd ⟨s * halfI (tkI 2 b).1 + ((tkI 2 b).2 : Int) * t, ?_⟩
    grind
  · rw [hil_at_odd hp, hil_at_odd hp, hil_at_odd hp, tkI_prod hp.pr ha hc]
    simp only
    rw [leg_mul hp]
    obtain ⟨_, _, hu⟩ := tkI_spec hp.pr.1 ha
    obtain ⟨_, _, hv⟩ := tkI_spec hp.pr.1 hc
    obtain ⟨_, _, hw⟩ := tkI_spec hp.pr.1 hb
    have l3 := leg_ne hw
    generalize leg p (tkI p a).1 = x
    generalize leg p (tkI p c).1 = y
    generalize leg p (tkI p b).1 = w at *
    have z1 := Nat.mod_two_eq_zero_or_one (tkI p a).2
    have z2 := Nat.mod_two_eq_zero_or_one (tkI p c).2
    have z3 := Nat.mod_two_eq_zero_or_one (tkI p b).2
    have e : ((tkI p a).2 + (tkI p c).2) % 2 = ((tkI p a).2 % 2 + (tkI p c).2 % 2) % 2 := Nat.add_mod ..
    rw [e]
    by_cases q : p % 4 = 3
    all_goals
      simp only [q, and_true, and_false, if_false]
      rcases z1 with z1 | z1 <;> rcases z2 with z2 | z2 <;> rcases z3 with z3 | z3 <;> rcases l3 with l3 | l3 <;> rw [z1, z2, z3, l3] <;> simp <;> grind
local macro_rules | `(tactic| walk_at "d1") => `(tactic| try simp only [dSeq, dSkip, dPass, dRet, dRetN, dDrop, dCond, dAsg, gNm, gTp, dOwn, dOwnL, dPar, dAug, dApp, dExt, dFrz, dFor, dLc, dBreak, dCont, dVar, dC, dOp, dT, dIsi, dNeg, dNot, dTNot, dAnd, dOr, dTAnd, dTOr, dIf, dCh, dNil, dCons, dTup, dLst, dIxO, dB, dCall, dCallW, dItems, dRng1, dRng2, dYes, fnE, startE, startW, startS, dLenO, dLenS, dIxS, dSl, dPt, dNo, wipeE, addD_int, addD_str, addD_tup, addD_lst, subD_int, mulD_int, mulD_tup, mulD_lst, fdivD_int, modD_int, powD_int, shlD_int, shrD_int, andD_int, ltD_int, leD_int, gtD_int, geD_int, eqD_ap, neD_ap, isD_ap, isNotD_ap, isNon_none, isNon_int, isNon_bool, isNon_str, isNon_tup, isNon_lst, isInt_none, isInt_int, isInt_bool, isInt_str, isInt_tup, isInt_lst, isBool_none, isBool_int, isBool_bool, isBool_str, isBool_tup, isBool_lst, isStr_none, isStr_int, isStr_bool, isStr_str, isStr_tup, isStr_lst, isTup_none, isTup_int, isTup_bool, isTup_str, isTup_tup, isTup_lst, isLst_lst, Cnd_true, Cnd_false, Cnd_not, Cnd_dec, asB_bool, forall_const, true_implies, false_implies, implies_true, decide_true, decide_false, Classical.not_not, negD_int, notD_bool, onVal_val, onOwn_own, onDic_dic, onScr_scr, onWv_wv, onInt_int, onTup_tup, onLst_lst, onItems_lst, onItems_tup, frz1_own, frz1_val, frz1_un, ixD_lst, ixD_tup, ixL_int, optD_some, optI_some, absD_int, intD_int, intD_bool, lenD_lst, lenD_tup, lenD_str, tupleD_lst, tupleD_tup, listD_lst, listD_tup, min2D_int, max2D_int, sumD_ints, allD_bls, anyD_bls, slD_lst, slD_tup, slD_str, gNl_nil, gCs_cons, par2_two, seq1_lst, seq1_tup, rng1D_int, rng2D_int, gt_z, gt_s, sp_next_int, set_z, set_s, List.map_cons, List.map_nil, List.length_cons, List.length_nil, List.cons_append, List.nil_append, List.replicate, Nat.reduceAdd, Nat.reduceSub, Nat.zero_add, shaped_int, shaped_bool, shaped_none, shaped_listI, shaped_tupI, shaped_nilL, shaped_nilT, eqv_int, eqv_bool, eqv_str, eqv_none, eqv_list_nil, List.isEmpty_nil, List.isEmpty_cons, Bool.true_eq_false, Bool.false_eq_true, decide_eq_true_eq, and_self, true_and, and_true, not_dec, Bool.not_eq_true', decide_eq_false_iff_not, atI_0, atI_1, atI_2, ite_true, ite_false, if_true, if_false, reduceIte, Bool.not_true, Bool.not_false, not_true_eq_false, not_false_eq_true, List.set_cons_zero, List.set_cons_succ, dPar3, dRev, par3_three, sortedD_ints, revD_tup, two_nat, one_nat, three_nat, dCh3, dOwnC, dPutPar, putPar_two, dZip2, zip2D_lst, zip2D_tup, dPut, isBD_bl, isNotBD_bl, dNewO, dPutO, dSortedO, putKD_int, dPar3O, dParO2, par3O_two, parO2_one, minLD_lst, dKeysW, rdPairs_nil, rdPairs_cons, onPair_ii, revD_lst, spx_half, spx_eighth, spx_size_of, spx_without_twos, spx_mark, spx_law_plain, spx_power_of, spx_law_power_v2])
local macro_rules | `(tactic| walk_at "dd") => `(tactic| (walk_at "d1"; repeat (with_reducible (refine then_intro ?_); walk_at "d1")))
theorem hil_one {p : Nat} (hp : Plc p) {b : Int} (hb : b ≠ 0) : hil p 1 b = 1 := by
  have h := hil_mul hp (a := 1) (c := 1) (b := b) (by decide) (by decide) hb
  rw [Int.mul_one] at h
  rcases hil_vals hp (a := 1) (by decide) hb with e | e
  · exact e
  · rw [e] at h; omega
theorem hil_unit {p : Nat} (hp : OddP p) {a b : Int} (ha : ¬ (p : Int) ∣ a) (hb : ¬ (p : Int) ∣ b) : hil p a b = 1 := by
  rw [hil_at_odd hp, tkI_none ha, tkI_none hb]
  rfl
theorem hil_pos {a b : Int} (h : 0 < a ∨ 0 < b) : hil 0 a b = 1 := by
  unfold hil
  rw [if_pos rfl, if_neg (by omega)]
theorem tkI_prime {q : Nat} (hq : PrimeI q) : tkI q (q : Int) = (1, 1) := by
  have h := tkI_pow (p := q) hq.1 (r := 1) (hq.small (by decide) (by have := hq.1; omega)) 1
  rw [Int.pow_one, Int.one_mul] at h
  exact h
theorem prime_ndvd {p q : Nat} (hp : PrimeI p) (hq : PrimeI q) (h : p ≠ q) : ¬ (p : Int) ∣ (q : Int) := fun d => h (hp.of_dvd hq (Int.natCast_dvd_natCast.mp d))
theorem two_tk {n : Int} (h : n % 2 = 1) : tkI 2 n = (n, 0) := tkI_none (by omega)
theorem sgn_half (q : Nat) (h : q % 2 = 1) : halfI (q : Int) = if q % 4 = 3 then 1 else 0 := by
  unfold halfI
  split <;> omega
theorem eighth_chi (q : Nat) : eighthI (q : Int) = if q % 8 = 3 ∨ q % 8 = 5 then 1 else 0 := by
  unfold eighthI
  split <;> split <;> omega
def prodH (L : List Nat) (a b : Int) : Int := prodL (L.map fun p => hil p a b)
theorem prodH_mul {L : List Nat} (hL : ∀ p ∈ L, Plc p) {a c b : Int} (ha : a ≠ 0) (hc : c ≠ 0) (hb : b ≠ 0) : prodH L (a * c) b = prodH L a b * prodH L c b := by
  induction L with
  | nil => rfl
  | cons p L ih =>
    unfold prodH at ih ⊢
    rw [List.map_cons, List.map_cons, List.map_cons, prodL_cons, prodL_cons, prodL_cons, ih fun q hq => hL q (List.mem_cons_of_mem _ hq), hil_mul (hL p List.mem_cons_self) ha hc hb]
    grind
theorem prodH_sym {L : List Nat} (hL : ∀ p ∈ L, Plc p) (a b : Int) : prodH L a b = prodH L b a := by
  unfold prodH
  rw [List.map_congr_left fun p hp => hil_sym (hL p hp) a b]
theorem prodL_ones {f : Nat → Int} : ∀ {L : List Nat}, (∀ p ∈ L, f p = 1) → prodL (L.map f) = 1
  | [], _ => rfl
  | p :: L, h => by
    rw [List.map_cons, prodL_cons, h p List.mem_cons_self, prodL_ones fun q hq => h q (List.mem_cons_of_mem _ hq)]
    rfl
theorem prodL_filter (f : Nat → Int) (g : Nat → Bool) : ∀ L : List Nat, prodL (L.map f) = prodL ((L.filter g).map f) * prodL ((L.filter fun p => !g p).map f)
  | [] => rfl
  | p :: L => by
    rw [List.map_cons, prodL_cons, prodL_filter f g L]
    cases e : g p
    · rw [List.filter_cons_of_neg (by simp [e]), List.filter_cons_of_pos (by simp [e]), List.map_cons, prodL_cons]
      grind
    · rw [List.filter_cons_of_pos (by simp [e]), List.filter_cons_of_neg (by simp [e]), List.map_cons, prodL_cons]
      grind
theorem nodup_subN : ∀ {l l' : List Nat}, l.Nodup → (∀ x ∈ l, x ∈ l') → l.length ≤ l'.length
  | [], _, _, _ => Nat.zero_le _
  | b :: l, l', hn, hs => by
    rw [List.nodup_cons] at hn
    have hb := hs b List.mem_cons_self
    have ih := nodup_subN (l := l) (l' := l'.erase b) hn.2 fun x hx => (List.mem_erase_of_ne (fun e => hn.1 (by rw [← e]; exact hx))).mpr (hs x (List.mem_cons_of_mem _ hx))
    rw [List.length_erase_of_mem hb] at ih
    have := List.length_pos_of_mem hb
    rw [List.length_cons]
    omega
theorem prodL_supp {f : Nat → Int} {L S : List Nat} (nL : L.Nodup) (nS : S.Nodup) (hS : ∀ p ∈ S, p ∈ L) (h : ∀ p ∈ L, p ∉ S → f p = 1) : prodL (L.map f) = prodL (S.map f) := by
  rw [prodL_filter f (fun p => decide (p ∈ S)) L, prodL_ones (L := L.filter fun p => !decide (p ∈ S)) fun p hp => ?_, Int.mul_one]
  · have pm : S.Perm (L.filter fun p => decide (p ∈ S)) := by
      have sub : ∀ x ∈ S, x ∈ L.filter fun p => decide (p ∈ S) := fun x hx => List.mem_filter.mpr ⟨hS x hx, decide_eq_true hx⟩
      refine nodup_perm nS sub ?_
      have nf : (L.filter fun p => decide (p ∈ S)).Nodup := nL.filter _
      have sub2 : (L.filter fun p => decide (p ∈ S)) ⊆ S := fun x hx => of_decide_eq_true (List.mem_filter.mp hx).2
      exact nodup_subN nf sub2
    exact prodL_perm (pm.map f).symm
  · obtain ⟨h1, h2⟩ := List.mem_filter.mp hp
    exact h p h1 (by simpa using h2)
/-- a row of places -/
structure Row (L : List Nat) : Prop where
  nd : L.Nodup
  pl : ∀ p ∈ L, Plc p
  z : 0 ∈ L
  t : 2 ∈ L
theorem Row.odd {L : List Nat} (h : Row L) {p : Nat} (hp : p ∈ L) (n0 : p ≠ 0) (n2 : p ≠ 2) : OddP p := ((h.pl p hp).resolve_left n0).resolve_left n2
theorem nd2 : [0, 2].Nodup := by decide
theorem nd3 {q : Nat} (hq : OddP q) : [0, 2, q].Nodup := by
  have := hq.three
  simp; omega
theorem pf_two {L : List Nat} (h : Row L) {a b : Int} (hu : ∀ p, OddP p → hil p a b = 1) : prodH L a b = hil 0 a b * hil 2 a b := by
  unfold prodH
  rw [prodL_supp h.nd nd2 (fun p hp => by rcases List.mem_cons.mp hp with rfl | hp; exact h.z; rw [List.mem_singleton.mp hp]; exact h.t) fun p hp hn => ?_]
  · simp [prodL]
  · simp at hn
    exact hu p (h.odd hp hn.1 hn.2)
theorem pf_three {L : List Nat} (h : Row L) {q : Nat} (hq : OddP q) (hm : q ∈ L) {a b : Int} (hu : ∀ p, OddP p → p ≠ q → hil p a b = 1) : prodH L a b = hil 0 a b * hil 2 a b * hil q a b := by
  unfold prodH
  rw [prodL_supp h.nd (nd3 hq) (fun p hp => by
    simp at hp
    rcases hp with rfl | rfl | rfl
    · exact h.z
    · exact h.t
    · exact hm) fun p hp hn => ?_]
  · simp [prodL, Int.mul_assoc]
  · simp at hn
    exact hu p (h.odd hp hn.1 hn.2.1) hn.2.2
theorem pf_four {L : List Nat} (h : Row L) {q r : Nat} (hq : OddP q) (hr : OddP r) (qr : q ≠ r) (hm : q ∈ L) (hm' : r ∈ L) {a b : Int} (hu : ∀ p, OddP p → p ≠ q → p ≠ r → hil p a b = 1) : prodH L a b = hil 0 a b * hil 2 a b * hil q a b * hil r a b := by
  have := hq.three
  have := hr.three
  unfold prodH
  rw [prodL_supp (S := [0, 2, q, r]) h.nd (by simp; omega) (fun p hp => by
    simp at hp
    rcases hp with rfl | rfl | rfl | rfl
    · exact h.z
    · exact h.t
    · exact hm
    · exact hm') fun p hp hn => ?_]
  · simp [prodL, Int.mul_assoc]
  · simp at hn
    exact hu p (h.odd hp hn.1 hn.2.1) hn.2.2.1 hn.2.2.2
theorem odd_ndvd_one {p : Nat} (hp : OddP p) : ¬ (p : Int) ∣ -1 := fun d => by
  have := hp.three
  have := Int.le_of_dvd (by decide) (Int.dvd_neg.mp d)
  omega
theorem odd_ndvd_two {p : Nat} (hp : OddP p) : ¬ (p : Int) ∣ 2 := prime_ndvd hp.pr prime_two hp.ne
theorem pf_mm {L : List Nat} (h : Row L) : prodH L (-1) (-1) = 1 := by
  rw [pf_two h fun p hp => hil_unit hp (odd_ndvd_one hp) (odd_ndvd_one hp), hil_at_two]
  unfold expE
  rw [two_tk (by decide)]
  decide
theorem pf_m2 {L : List Nat} (h : Row L) : prodH L (-1) 2 = 1 := by
  rw [pf_two h fun p hp => hil_unit hp (odd_ndvd_one hp) (odd_ndvd_two hp), hil_at_two, hil_pos (.inr (by decide))]
  unfold expE
  rw [two_tk (by decide), show tkI 2 2 = (1, 1) from tkI_prime prime_two]
  decide
theorem pf_22 {L : List Nat} (h : Row L) : prodH L 2 2 = 1 := by
  rw [pf_two h fun p hp => hil_unit hp (odd_ndvd_two hp) (odd_ndvd_two hp), hil_at_two, hil_pos (.inr (by decide))]
  unfold expE
  rw [show tkI 2 2 = (1, 1) from tkI_prime prime_two]
  decide
theorem pf_mq {L : List Nat} (h : Row L) {q : Nat} (hq : OddP q) (hm : q ∈ L) : prodH L (-1) q = 1 := by
  have ho := hq.odd
  rw [pf_three h hq hm fun p hp hn => hil_unit hp (odd_ndvd_one hp) (prime_ndvd hp.pr hq.pr hn), hil_at_two, hil_pos (.inr (by have := hq.three; omega)), hil_at_odd hq, tkI_none (odd_ndvd_one hq), tkI_prime hq.pr]
  unfold expE
  rw [two_tk (by decide), two_tk (n := (q : Int)) (by omega), leg_neg_one hq]
  simp only
  rw [sgn_half q ho]
  by_cases z : q % 4 = 3 <;> simp [z] <;> decide
theorem pf_2q {L : List Nat} (h : Row L) {q : Nat} (hq : OddP q) (hm : q ∈ L) : prodH L 2 q = 1 := by
  have ho := hq.odd
  rw [pf_three h hq hm fun p hp hn => hil_unit hp (odd_ndvd_two hp) (prime_ndvd hp.pr hq.pr hn), hil_at_two, hil_pos (.inl (by decide)), hil_at_odd hq, tkI_none (odd_ndvd_two hq), tkI_prime hq.pr]
  unfold expE
  rw [show tkI 2 2 = (1, 1) from tkI_prime prime_two, two_tk (n := (q : Int)) (by omega)]
  simp only
  rw [leg_two hq, eighth_chi, sgn_half q ho]
  by_cases z : q % 4 = 3 <;> by_cases z' : q % 8 = 3 ∨ q % 8 = 5 <;> simp [z, z'] <;> decide
theorem pf_qq {L : List Nat} (h : Row L) {q : Nat} (hq : OddP q) (hm : q ∈ L) : prodH L q q = 1 := by
  have ho := hq.odd
  rw [pf_three h hq hm fun p hp hn => hil_unit hp (prime_ndvd hp.pr hq.pr hn) (prime_ndvd hp.pr hq.pr hn), hil_at_two, hil_pos (.inl (by have := hq.three; omega)), hil_at_odd hq, tkI_prime hq.pr]
  unfold expE
  rw [two_tk (n := (q : Int)) (by omega)]
  simp only
  rw [leg_one hq, sgn_half q ho]
  by_cases z : q % 4 = 3 <;> simp [z] <;> decide
theorem pf_qr {L : List Nat} (h : Row L) {q r : Nat} (hq : OddP q) (hr : OddP r) (qr : q ≠ r) (hm : q ∈ L) (hm' : r ∈ L) : prodH L q r = 1 := by
  have ho := hq.odd
  have ho' := hr.odd
  have n1 := prime_ndvd hq.pr hr.pr qr
  have n2 := prime_ndvd hr.pr hq.pr (Ne.symm qr)
  rw [pf_four h hq hr qr hm hm' fun p hp hn hn' => hil_unit hp (prime_ndvd hp.pr hq.pr hn) (prime_ndvd hp.pr hr.pr hn'), hil_at_two, hil_pos (.inl (by have := hq.three; omega)), hil_at_odd hq, hil_at_odd hr, tkI_prime hq.pr, tkI_prime hr.pr, tkI_none n1, tkI_none n2]
  unfold expE
  rw [two_tk (n := (q : Int)) (by omega), two_tk (n := (r : Int)) (by omega)]
  simp only
  rw [leg_qr hq hr n1 n2, sgn_half q ho, sgn_half r ho']
  have l := leg_ne n2
  generalize leg r (q : Int) = x at *
  by_cases z : q % 4 = 3 <;> by_cases z' : r % 4 = 3 <;> rcases l with rfl | rfl <;> simp [z, z'] <;> decide

theorem pf_one {L : List Nat} (h : Row L) {b : Int} (hb : b ≠ 0) : prodH L 1 b = 1 := prodL_ones fun p hp => hil_one (h.pl p hp) hb
/-- the first a prime -/
theorem pf_prime {L : List Nat} (h : Row L) {q r : Nat} (hq : AnyP q) (hr : AnyP r) (hm : q ∈ L) (hm' : r ∈ L) : prodH L q r = 1 := by
  rcases hq with rfl | hq
  · rcases hr with rfl | hr
    · exact pf_22 h
    · exact pf_2q h hr hm'
  · rcases hr with rfl | hr
    · rw [prodH_sym h.pl]; exact pf_2q h hq hm
    · by_cases e : q = r
      · subst e; exact pf_qq h hq hm
      · exact pf_qr h hq hr e hm hm'
theorem pf_neg {L : List Nat} (h : Row L) {q : Nat} (hq : AnyP q) (hm : q ∈ L) : prodH L (-1) q = 1 := by
  rcases hq with rfl | hq
  · exact pf_m2 h
  · exact pf_mq h hq hm
/-- what holds of 1, -1, the primes of n, and of products of such holds of n -/
theorem by_primes {P : Int → Prop} (h1 : P 1) (hn : P (-1)) : ∀ (k : Nat) (n : Int), n.natAbs ≤ k → n ≠ 0 → (∀ p : Nat, PrimeI p → (p : Int) ∣ n → P p) → (∀ a b : Int, a ≠ 0 → b ≠ 0 → P a → P b → P (a * b)) → P n
  | 0, n, hk, n0, _, _ => absurd (by omega) n0
  | k + 1, n, hk, n0, hp, hm => by
    by_cases z : n.natAbs = 1
    · have : n = 1 ∨ n = -1 := by omega
      rcases this with rfl | rfl
      · exact h1
      · exact hn
    · have n2 : 2 ≤ n.natAbs := by omega
      have hq := minFac_prime n2
      have hd : (minFac n.natAbs : Int) ∣ n := Int.ofNat_dvd_left.mpr (minFac_spec n2).1
      obtain ⟨m, hm'⟩ := hd
      have m0 : m ≠ 0 := fun e => by rw [e, Int.mul_zero] at hm'; exact n0 hm'
      have q0 : ((minFac n.natAbs : Nat) : Int) ≠ 0 := by have := hq.1; omega
      have hlt : m.natAbs ≤ k := by
        have e : n.natAbs = minFac n.natAbs * m.natAbs := by
          conv => lhs; rw [hm']
          rw [Int.natAbs_mul, Int.natAbs_natCast]
        have := Nat.mul_le_mul_right m.natAbs hq.1
        have : 0 < m.natAbs := by omega
        omega
      have ih := by_primes h1 hn k m hlt m0 (fun p h1 h2 => hp p h1 (by rw [hm']; exact Int.dvd_trans h2 (Int.dvd_mul_left _ _))) hm
      have hh := hm _ _ q0 m0 (hp _ hq ⟨m, hm'⟩) ih
      rw [← hm'] at hh
      exact hh
/-- the product of the marks of a pair at all places is 1 -/
theorem prodH_all {L : List Nat} (h : Row L) {a b : Int} (ha : a ≠ 0) (hb : b ≠ 0) (hL : ∀ p : Nat, PrimeI p → (p : Int) ∣ a ∨ (p : Int) ∣ b → p ∈ L) : prodH L a b = 1 := by
  have main : ∀ x : Int, x ≠ 0 → (x = 1 ∨ x = -1 ∨ ∃ p : Nat, AnyP p ∧ p ∈ L ∧ x = p) → prodH L x b = 1 := by
    intro x x0 hx
    have mulb : ∀ u v : Int, u ≠ 0 → v ≠ 0 → prodH L x u = 1 → prodH L x v = 1 → prodH L x (u * v) = 1 := fun u v u0 v0 hu hv => by
      rw [prodH_sym h.pl, prodH_mul h.pl u0 v0 x0, prodH_sym h.pl u, prodH_sym h.pl v, hu, hv]
      rfl
    rcases hx with rfl | rfl | ⟨p, hp, hm, rfl⟩
    · exact pf_one h hb
    · refine by_primes (P := fun b => prodH L (-1) b = 1) ?_ (pf_mm h) _ b (Nat.le_refl _) hb (fun q hq d => pf_neg h hq.two_or (hL q hq (.inr d))) mulb
      rw [prodH_sym h.pl]
      exact pf_one h (by decide)
    · refine by_primes (P := fun b => prodH L p b = 1) ?_ ?_ _ b (Nat.le_refl _) hb (fun q hq d => pf_prime h hp hq.two_or hm (hL q hq (.inr d))) mulb
      · rw [prodH_sym h.pl]
        exact pf_one h x0
      · rw [prodH_sym h.pl]
        exact pf_neg h hp hm
  refine by_primes (P := fun a => prodH L a b = 1) (pf_one h hb) (main _ (by decide) (.inr (.inl rfl))) _ a (Nat.le_refl _) ha (fun q hq d => main _ (by have := hq.1; omega) (.inr (.inr ⟨q, hq.two_or, hL q hq (.inl d), rfl⟩))) fun u v u0 v0 hu hv => ?_
  rw [prodH_mul h.pl u0 v0 hb, hu, hv]
  rfl
theorem prodL_sign {f : Nat → Int} : ∀ {L : List Nat}, (∀ p ∈ L, f p = 1 ∨ f p = -1) → prodL (L.map f) = (-1) ^ (L.filter fun p => decide (f p = -1)).length
  | [], _ => rfl
  | p :: L, h => by
    have ih := prodL_sign (L := L) fun q hq => h q (List.mem_cons_of_mem _ hq)
    rw [List.map_cons, prodL_cons, ih]
    rcases h p List.mem_cons_self with e | e
    · rw [List.filter_cons_of_neg (by simp [e]), e, Int.one_mul]
    · rw [List.filter_cons_of_pos (by simp [e]), e, List.length_cons, Int.pow_succ]
      omega
local macro_rules | `(tactic| walk_at "d1") => `(tactic| try simp only [dSeq, dSkip, dPass, dRet, dRetN, dDrop, dCond, dAsg, gNm, gTp, dOwn, dOwnL, dPar, dAug, dApp, dExt, dFrz, dFor, dLc, dBreak, dCont, dVar, dC, dOp, dT, dIsi, dNeg, dNot, dTNot, dAnd, dOr, dTAnd, dTOr, dIf, dCh, dNil, dCons, dTup, dLst, dIxO, dB, dCall, dCallW, dItems, dRng1, dRng2, dYes, fnE, startE, startW, startS, dLenO, dLenS, dIxS, dSl, dPt, dNo, wipeE, addD_int, addD_str, addD_tup, addD_lst, subD_int, mulD_int, mulD_tup, mulD_lst, fdivD_int, modD_int, powD_int, shlD_int, shrD_int, andD_int, ltD_int, leD_int, gtD_int, geD_int, eqD_ap, neD_ap, isD_ap, isNotD_ap, isNon_none, isNon_int, isNon_bool, isNon_str, isNon_tup, isNon_lst, isInt_none, isInt_int, isInt_bool, isInt_str, isInt_tup, isInt_lst, isBool_none, isBool_int, isBool_bool, isBool_str, isBool_tup, isBool_lst, isStr_none, isStr_int, isStr_bool, isStr_str, isStr_tup, isStr_lst, isTup_none, isTup_int, isTup_bool, isTup_str, isTup_tup, isTup_lst, isLst_lst, Cnd_true, Cnd_false, Cnd_not, Cnd_dec, asB_bool, forall_const, true_implies, false_implies, implies_true, decide_true, decide_false, Classical.not_not, negD_int, notD_bool, onVal_val, onOwn_own, onDic_dic, onScr_scr, onWv_wv, onInt_int, onTup_tup, onLst_lst, onItems_lst, onItems_tup, frz1_own, frz1_val, frz1_un, ixD_lst, ixD_tup, ixL_int, optD_some, optI_some, absD_int, intD_int, intD_bool, lenD_lst, lenD_tup, lenD_str, tupleD_lst, tupleD_tup, listD_lst, listD_tup, min2D_int, max2D_int, sumD_ints, allD_bls, anyD_bls, slD_lst, slD_tup, slD_str, gNl_nil, gCs_cons, par2_two, seq1_lst, seq1_tup, rng1D_int, rng2D_int, gt_z, gt_s, sp_next_int, set_z, set_s, List.map_cons, List.map_nil, List.length_cons, List.length_nil, List.cons_append, List.nil_append, List.replicate, Nat.reduceAdd, Nat.reduceSub, Nat.zero_add, shaped_int, shaped_bool, shaped_none, shaped_listI, shaped_tupI, shaped_nilL, shaped_nilT, eqv_int, eqv_bool, eqv_str, eqv_none, eqv_list_nil, List.isEmpty_nil, List.isEmpty_cons, Bool.true_eq_false, Bool.false_eq_true, decide_eq_true_eq, and_self, true_and, and_true, not_dec, Bool.not_eq_true', decide_eq_false_iff_not, atI_0, atI_1, atI_2, ite_true, ite_false, if_true, if_false, reduceIte, Bool.not_true, Bool.not_false, not_true_eq_false, not_false_eq_true, List.set_cons_zero, List.set_cons_succ, dPar3, dRev, par3_three, sortedD_ints, revD_tup, two_nat, one_nat, three_nat, dCh3, dOwnC, dPutPar, putPar_two, dZip2, zip2D_lst, zip2D_tup, dPut, isBD_bl, isNotBD_bl, dNewO, dPutO, dSortedO, putKD_int, dPar3O, dParO2, par3O_two, parO2_one, minLD_lst, dKeysW, rdPairs_nil, rdPairs_cons, onPair_ii, revD_lst, spx_half, spx_eighth, spx_size_of, spx_without_twos, spx_mark, spx_law_plain, spx_power_of, spx_law_power_v2])
local macro_rules | `(tactic| walk_at "dd") => `(tactic| (walk_at "d1"; repeat (with_reducible (refine then_intro ?_); walk_at "d1")))
/-- a zero modulo p^e, not all divided by p -/
def ZeroP (p e : Nat) (A B C : Int) : Prop := ∃ x y z : Int, (¬ (p : Int) ∣ x ∨ ¬ (p : Int) ∣ y ∨ ¬ (p : Int) ∣ z) ∧ (p : Int) ^ e ∣ A * (x * x) + B * (y * y) + C * (z * z)
theorem dvd_scale {m A B C x y z u x' y' z' : Int} (h : m ∣ A * (x * x) + B * (y * y) + C * (z * z)) (hx : m ∣ x * u - x') (hy : m ∣ y * u - y') (hz : m ∣ z * u - z') : m ∣ A * (x' * x') + B * (y' * y') + C * (z' * z') := by
  obtain ⟨a, ha⟩ := hx
  obtain ⟨b, hb⟩ := hy
  obtain ⟨c, hc⟩ := hz
  obtain ⟨d, hd⟩ := h
  obtain rfl : x' = x * u - m * a := by omega
  obtain rfl : y' = y * u - m * b := by omega
  obtain rfl : z' = z * u - m * c := by omega
  refine ⟨d * (u * u) + A * (m * a * a - 2 * (x * u) * a) + B * (m * b * b - 2 * (y * u) * b) + C * (m * c * c - 2 * (z * u) * c), ?_⟩
  have e : A * ((x * u - m * a) * (x * u - m * a)) + B * ((y * u - m * b) * (y * u - m * b)) + C * ((z * u - m * c) * (z * u - m * c)) = (A * (x * x) + B * (y * y) + C * (z * z)) * (u * u) + m * (A * (m * a * a - 2 * (x * u) * a) + B * (m * b * b - 2 * (y * u) * b) + C * (m * c * c - 2 * (z * u) * c)) := by grind
  rw [e, hd]
  grind
theorem ZeroP.one {p e : Nat} (hp : PrimeI p) {A B C : Int} (h : ZeroP p e A B C) : ZeroM ((p : Int) ^ e) A B C := by
  obtain ⟨x, y, z, hu, hd⟩ := h
  have self : ∀ w u : Int, (p : Int) ^ e ∣ w * u - w * u := fun w u => ⟨0, by omega⟩
  rcases hu with hu | hu | hu
  · obtain ⟨u, hu'⟩ := exists_inv hp hu e
    exact ⟨1, y * u, z * u, .inl rfl, dvd_scale hd hu' (self _ _) (self _ _)⟩
  · obtain ⟨u, hu'⟩ := exists_inv hp hu e
    exact ⟨x * u, 1, z * u, .inr (.inl rfl), dvd_scale hd (self _ _) hu' (self _ _)⟩
  · obtain ⟨u, hu'⟩ := exists_inv hp hu e
    exact ⟨x * u, y * u, 1, .inr (.inr rfl), dvd_scale hd (self _ _) (self _ _) hu'⟩
theorem ZeroP.of {p e : Nat} (hp : PrimeI p) {A B C : Int} (h : ZeroM ((p : Int) ^ e) A B C) : ZeroP p e A B C := by
  have n1 : ¬ (p : Int) ∣ 1 := hp.small (by decide) (by have := hp.1; omega)
  obtain ⟨x, y, z, hu, hd⟩ := h
  refine ⟨x, y, z, ?_, hd⟩
  rcases hu with rfl | rfl | rfl
  · exact .inl n1
  · exact .inr (.inl n1)
  · exact .inr (.inr n1)
theorem zeroP_swap12 {p e : Nat} {A B C : Int} (h : ZeroP p e A B C) : ZeroP p e B A C := by
  obtain ⟨x, y, z, hu, hd⟩ := h
  refine ⟨y, x, z, ?_, ?_⟩
  · rcases hu with h | h | h
    · exact .inr (.inl h)
    · exact .inl h
    · exact .inr (.inr h)
  · rwa [Int.add_comm (B * (y * y))]
theorem zeroP_swap13 {p e : Nat} {A B C : Int} (h : ZeroP p e A B C) : ZeroP p e C B A := by
  obtain ⟨x, y, z, hu, hd⟩ := h
  refine ⟨z, y, x, ?_, ?_⟩
  · rcases hu with h | h | h
    · exact .inr (.inr h)
    · exact .inr (.inl h)
    · exact .inl h
  · have e : C * (z * z) + B * (y * y) + A * (x * x) = A * (x * x) + B * (y * y) + C * (z * z) := by omega
    rwa [e]
/-- the last number a unit: the form of the pair -/
theorem zeroP_pair {p e : Nat} (hp : PrimeI p) {A B C : Int} (hC : ¬ (p : Int) ∣ C) (h : ZeroP p e A B C) : ZeroP p e (-(A * C)) (-(B * C)) (-1) := by
  obtain ⟨x, y, z, hu, hd⟩ := h
  refine ⟨x, y, C * z, ?_, ?_⟩
  · rcases hu with h | h | h
    · exact .inl h
    · exact .inr (.inl h)
    · exact .inr (.inr fun d => (hp.euclid d).elim hC h)
  · have e : -(A * C) * (x * x) + -(B * C) * (y * y) + -1 * (C * z * (C * z)) = (A * (x * x) + B * (y * y) + C * (z * z)) * (-C) := by grind
    rw [e]
    exact Int.dvd_trans hd (Int.dvd_mul_right _ _)
/-- a number is its plain part times a square -/
theorem plain_sq {p : Nat} (hp : PrimeI p) {a : Int} (ha : a ≠ 0) : ∃ s : Int, s ≠ 0 ∧ a = plainI p a * (s * s) ∧ plainI p a ≠ 0 := by
  have h2 : 2 ≤ p * p := Nat.le_trans hp.1 (Nat.le_mul_of_pos_left p (by have := hp.1; omega))
  obtain ⟨h1, h3, _⟩ := tkI_spec h2 ha
  refine ⟨(p : Int) ^ (tkI (p * p) a).2, Int.pow_ne_zero (by have := hp.1; omega), ?_, h3⟩
  have e : ((p * p : Nat) : Int) ^ (tkI (p * p) a).2 = (p : Int) ^ (tkI (p * p) a).2 * (p : Int) ^ (tkI (p * p) a).2 := by rw [Int.natCast_mul, Int.mul_pow]
  rw [e] at h1
  exact h1
/-- numbers, not all 0: what is left without the prime in all -/
theorem primitive {p : Nat} (hp : PrimeI p) : ∀ (k : Nat) (x y z : Int), x.natAbs + y.natAbs + z.natAbs ≤ k → ¬ (x = 0 ∧ y = 0 ∧ z = 0) → ∃ c x' y' z' : Int, c ≠ 0 ∧ x = c * x' ∧ y = c * y' ∧ z = c * z' ∧ (¬ (p : Int) ∣ x' ∨ ¬ (p : Int) ∣ y' ∨ ¬ (p : Int) ∣ z')
  | 0, x, y, z, h, hn => absurd ⟨by omega, by omega, by omega⟩ hn
  | k + 1, x, y, z, h, hn => by
    by_cases hd : (p : Int) ∣ x ∧ (p : Int) ∣ y ∧ (p : Int) ∣ z
    · obtain ⟨⟨x1, rfl⟩, ⟨y1, rfl⟩, ⟨z1, rfl⟩⟩ := hd
      have p2 := hp.1
      have hn' : ¬ (x1 = 0 ∧ y1 = 0 ∧ z1 = 0) := fun ⟨a, b, c⟩ => hn ⟨by rw [a, Int.mul_zero], by rw [b, Int.mul_zero], by rw [c, Int.mul_zero]⟩
      rw [Int.natAbs_mul, Int.natAbs_mul, Int.natAbs_mul, Int.natAbs_natCast] at h
      have l1 := Nat.mul_le_mul_right x1.natAbs p2
      have l2 := Nat.mul_le_mul_right y1.natAbs p2
      have l3 := Nat.mul_le_mul_right z1.natAbs p2
      obtain ⟨c, x', y', z', c0, e1, e2, e3, h'⟩ := primitive hp k x1 y1 z1 (by omega) hn'
      exact ⟨p * c, x', y', z', Int.mul_ne_zero (by omega) c0, by rw [e1, Int.mul_assoc], by rw [e2, Int.mul_assoc], by rw [e3, Int.mul_assoc], h'⟩
    · refine ⟨1, x, y, z, by decide, by omega, by omega, by omega, ?_⟩
      by_cases h1 : (p : Int) ∣ x
      · by_cases h2 : (p : Int) ∣ y
        · exact .inr (.inr fun h3 => hd ⟨h1, h2, h3⟩)
        · exact .inr (.inl h2)
      · exact .inl h1
/-- a zero of the form of a pair: its mark is 1 at all places -/
theorem sol_hil {p : Nat} (hp : Plc p) {a b x y z : Int} (ha : a ≠ 0) (hb : b ≠ 0) (hn : ¬ (x = 0 ∧ y = 0 ∧ z = 0)) (h : a * (x * x) + b * (y * y) = z * z) : hil p a b = 1 := by
  have prime : ∀ {p : Nat}, PrimeI p → ∀ e : Nat, ZeroM ((p : Int) ^ e) (plainI p a) (plainI p b) (-1) := fun {p} hp e => by
    obtain ⟨s, s0, es, _⟩ := plain_sq hp ha
    obtain ⟨t, t0, et, _⟩ := plain_sq hp hb
    have hn' : ¬ (s * x = 0 ∧ t * y = 0 ∧ z = 0) := fun ⟨h1, h2, h3⟩ => hn ⟨(Int.mul_eq_zero.mp h1).resolve_left s0, (Int.mul_eq_zero.mp h2).resolve_left t0, h3⟩
    obtain ⟨c, x', y', z', c0, e1, e2, e3, hu⟩ := primitive hp _ (s * x) (t * y) z (Nat.le_refl _) hn'
    refine ZeroP.one hp ⟨x', y', z', hu, ?_⟩
    have key : c * c * (plainI p a * (x' * x') + plainI p b * (y' * y') + -1 * (z' * z')) = 0 := by
      have h1 : plainI p a * (s * x * (s * x)) + plainI p b * (t * y * (t * y)) = z * z := by
        rw [← h]
        conv => rhs; rw [es, et]
        grind
      rw [e1, e2, e3] at h1
      grind
    have := (Int.mul_eq_zero.mp key).resolve_left (Int.mul_ne_zero c0 c0)
    rw [this]
    exact Int.dvd_zero _
  rcases hp with rfl | rfl | hp
  · unfold hil
    rw [if_pos rfl]
    by_cases z' : a < 0 ∧ b < 0
    · exfalso
      have sq : ∀ w : Int, 0 ≤ w * w := fun w => by
        rcases Int.le_total 0 w with z | z
        · exact Int.mul_nonneg z z
        · exact Int.mul_nonneg_of_nonpos_of_nonpos z z
      have zz := sq z
      have h1 := Int.mul_le_mul_of_nonneg_right (show a ≤ -1 by omega) (sq x)
      have h2 := Int.mul_le_mul_of_nonneg_right (show b ≤ -1 by omega) (sq y)
      have xx := sq x
      have yy := sq y
      have q : ∀ w : Int, w * w = 0 → w = 0 := fun w h => (Int.mul_eq_zero.mp h).elim id id
      exact hn ⟨q x (by omega), q y (by omega), q z (by omega)⟩
    · rw [if_neg z']
  · exact (hil_two ha hb).mp (by have := prime prime_two 6; exact this)
  · exact (hil_odd hp (e := 2) (Nat.le_refl _) ha hb).mp (prime hp.pr 2)
theorem hil_opp {p : Nat} (hp : Plc p) {a : Int} (ha : a ≠ 0) : hil p a (-a) = 1 := sol_hil hp ha (by omega) (x := 1) (y := 1) (z := 0) (by omega) (by omega)
theorem hil_sqr {p : Nat} (hp : Plc p) {s b : Int} (hs : s ≠ 0) (hb : b ≠ 0) : hil p (s * s) b = 1 := by
  rw [hil_mul hp hs hs hb]
  rcases hil_vals hp hs hb with e | e <;> rw [e] <;> rfl
theorem hil_mul_right {p : Nat} (hp : Plc p) {a b c : Int} (ha : a ≠ 0) (hb : b ≠ 0) (hc : c ≠ 0) : hil p a (b * c) = hil p a b * hil p a c := by
  rw [hil_sym hp, hil_mul hp hb hc ha, hil_sym hp b, hil_sym hp c]
theorem hil_sqr_right {p : Nat} (hp : Plc p) {a s : Int} (ha : a ≠ 0) (hs : s ≠ 0) : hil p a (s * s) = 1 := by rw [hil_sym hp]; exact hil_sqr hp hs ha
local macro_rules | `(tactic| walk_at "d1") => `(tactic| try simp only [dSeq, dSkip, dPass, dRet, dRetN, dDrop, dCond, dAsg, gNm, gTp, dOwn, dOwnL, dPar, dAug, dApp, dExt, dFrz, dFor, dLc, dBreak, dCont, dVar, dC, dOp, dT, dIsi, dNeg, dNot, dTNot, dAnd, dOr, dTAnd, dTOr, dIf, dCh, dNil, dCons, dTup, dLst, dIxO, dB, dCall, dCallW, dItems, dRng1, dRng2, dYes, fnE, startE, startW, startS, dLenO, dLenS, dIxS, dSl, dPt, dNo, wipeE, addD_int, addD_str, addD_tup, addD_lst, subD_int, mulD_int, mulD_tup, mulD_lst, fdivD_int, modD_int, powD_int, shlD_int, shrD_int, andD_int, ltD_int, leD_int, gtD_int, geD_int, eqD_ap, neD_ap, isD_ap, isNotD_ap, isNon_none, isNon_int, isNon_bool, isNon_str, isNon_tup, isNon_lst, isInt_none, isInt_int, isInt_bool, isInt_str, isInt_tup, isInt_lst, isBool_none, isBool_int, isBool_bool, isBool_str, isBool_tup, isBool_lst, isStr_none, isStr_int, isStr_bool, isStr_str, isStr_tup, isStr_lst, isTup_none, isTup_int, isTup_bool, isTup_str, isTup_tup, isTup_lst, isLst_lst, Cnd_true, Cnd_false, Cnd_not, Cnd_dec, asB_bool, forall_const, true_implies, false_implies, implies_true, decide_true, decide_false, Classical.not_not, negD_int, notD_bool, onVal_val, onOwn_own, onDic_dic, onScr_scr, onWv_wv, onInt_int, onTup_tup, onLst_lst, onItems_lst, onItems_tup, frz1_own, frz1_val, frz1_un, ixD_lst, ixD_tup, ixL_int, optD_some, optI_some, absD_int, intD_int, intD_bool, lenD_lst, lenD_tup, lenD_str, tupleD_lst, tupleD_tup, listD_lst, listD_tup, min2D_int, max2D_int, sumD_ints, allD_bls, anyD_bls, slD_lst, slD_tup, slD_str, gNl_nil, gCs_cons, par2_two, seq1_lst, seq1_tup, rng1D_int, rng2D_int, gt_z, gt_s, sp_next_int, set_z, set_s, List.map_cons, List.map_nil, List.length_cons, List.length_nil, List.cons_append, List.nil_append, List.replicate, Nat.reduceAdd, Nat.reduceSub, Nat.zero_add, shaped_int, shaped_bool, shaped_none, shaped_listI, shaped_tupI, shaped_nilL, shaped_nilT, eqv_int, eqv_bool, eqv_str, eqv_none, eqv_list_nil, List.isEmpty_nil, List.isEmpty_cons, Bool.true_eq_false, Bool.false_eq_true, decide_eq_true_eq, and_self, true_and, and_true, not_dec, Bool.not_eq_true', decide_eq_false_iff_not, atI_0, atI_1, atI_2, ite_true, ite_false, if_true, if_false, reduceIte, Bool.not_true, Bool.not_false, not_true_eq_false, not_false_eq_true, List.set_cons_zero, List.set_cons_succ, dPar3, dRev, par3_three, sortedD_ints, revD_tup, two_nat, one_nat, three_nat, dCh3, dOwnC, dPutPar, putPar_two, dZip2, zip2D_lst, zip2D_tup, dPut, isBD_bl, isNotBD_bl, dNewO, dPutO, dSortedO, putKD_int, dPar3O, dParO2, par3O_two, parO2_one, minLD_lst, dKeysW, rdPairs_nil, rdPairs_cons, onPair_ii, revD_lst, spx_half, spx_eighth, spx_size_of, spx_without_twos, spx_mark, spx_law_plain, spx_power_of, spx_law_power_v2])
local macro_rules | `(tactic| walk_at "dd") => `(tactic| (walk_at "d1"; repeat (with_reducible (refine then_intro ?_); walk_at "d1")))
def SqF (n : Int) : Prop := ∀ p : Nat, PrimeI p → ¬ ((p * p : Nat) : Int) ∣ n
theorem plM_prod : ∀ ps : List (Nat × Nat), prodF ps = plM ps * (plS ps * plS ps) := by
  refine snoc_ind rfl fun ps p ih => ?_
  rw [prodF_snoc, plM_snoc, plS_snoc, ih]
  have e : p.1 ^ p.2 = p.1 ^ (p.2 / 2) * p.1 ^ (p.2 / 2) * p.1 ^ (p.2 % 2) := by
    rw [← Nat.pow_add, ← Nat.pow_add]
    congr 1
    omega
  rw [e]
  rcases Nat.mod_two_eq_zero_or_one p.2 with z | z
  · rw [z, if_neg (by decide), Nat.pow_zero]; grind
  · rw [z, if_pos rfl, Nat.pow_one]; grind
theorem plM_dvd {q : Nat} (hq : PrimeI q) : ∀ ps : List (Nat × Nat), (∀ p ∈ ps, PrimeI p.1) → q ∣ plM ps → q ∈ ps.map (·.1) := by
  refine snoc_ind (fun _ d => ?_) fun ps p ih h d => ?_
  · have := Nat.le_of_dvd (by decide) (show q ∣ 1 from d)
    have := hq.1
    omega
  · rw [plM_snoc] at d
    rw [List.map_append]
    have ih' := ih fun r hr => h r (List.mem_append.mpr (.inl hr))
    have hp := h p (List.mem_append.mpr (.inr List.mem_cons_self))
    split at d
    · have d' : (q : Int) ∣ (plM ps : Int) * (p.1 : Int) := by rw [← Int.natCast_mul]; exact Int.natCast_dvd_natCast.mpr d
      rcases hq.euclid d' with d | d
      · exact List.mem_append.mpr (.inl (ih' (Int.natCast_dvd_natCast.mp d)))
      · rw [hq.of_dvd hp (Int.natCast_dvd_natCast.mp d)]
        exact List.mem_append.mpr (.inr List.mem_cons_self)
    · exact List.mem_append.mpr (.inl (ih' d))
theorem sq_dvd_unit' {p : Nat} (hp : PrimeI p) {a c : Int} (hc : ¬ (p : Int) ∣ c) (h : ((p * p : Nat) : Int) ∣ a * c) : ((p * p : Nat) : Int) ∣ a := by
  rw [Int.natCast_mul] at h ⊢
  obtain ⟨k, hk⟩ := h
  have h1 : (p : Int) ∣ a * c := ⟨p * k, by rw [hk, Int.mul_assoc]⟩
  obtain ⟨m, rfl⟩ := (hp.euclid h1).resolve_right hc
  have p0 : (p : Int) ≠ 0 := by have := hp.1; omega
  have h2 : m * c = p * k := Int.eq_of_mul_eq_mul_left p0 (by rw [← Int.mul_assoc, hk, Int.mul_assoc])
  obtain ⟨n, rfl⟩ := (hp.euclid ⟨k, h2⟩ : (p : Int) ∣ m ∨ (p : Int) ∣ c).resolve_right hc
  exact ⟨n, by rw [Int.mul_assoc]⟩
theorem plM_sqf {q : Nat} (hq : PrimeI q) : ∀ ps : List (Nat × Nat), (∀ p ∈ ps, PrimeI p.1) → ps.Pairwise (fun x y => x.1 < y.1) → ¬ ((q * q : Nat) : Int) ∣ (plM ps : Int) := by
  refine snoc_ind (fun _ _ d => ?_) fun ps p ih h pw d => ?_
  · have h1 := Int.le_of_dvd (by decide) (show ((q * q : Nat) : Int) ∣ 1 from d)
    have := Nat.mul_le_mul hq.1 hq.1
    omega
  · rw [plM_snoc] at d
    rw [List.pairwise_append] at pw
    have h1 : ∀ p ∈ ps, PrimeI p.1 := fun r hr => h r (List.mem_append.mpr (.inl hr))
    have hp := h p (List.mem_append.mpr (.inr List.mem_cons_self))
    have ih' := ih h1 pw.1
    split at d
    · have d : ((q * q : Nat) : Int) ∣ (plM ps : Int) * (p.1 : Int) := by rw [← Int.natCast_mul]; exact d
      by_cases z : (q : Int) ∣ (p.1 : Int)
      · have e := hq.of_dvd hp (Int.natCast_dvd_natCast.mp z)
        subst e
        have p0 : (p.1 : Int) ≠ 0 := by have := hq.1; omega
        obtain ⟨k, hk⟩ := d
        have h2 : (plM ps : Int) = p.1 * k := Int.eq_of_mul_eq_mul_right p0 (by rw [hk, Int.natCast_mul]; grind)
        have h3 := plM_dvd hq ps h1 (Int.natCast_dvd_natCast.mp ⟨k, h2⟩)
        obtain ⟨r, hr, e⟩ := List.mem_map.mp h3
        have := pw.2.2 r hr p List.mem_cons_self
        omega
      · exact ih' (sq_dvd_unit' hq z d)
    · exact ih' d
/-- what plain_part gives -/
theorem plain_fact {n : Int} (h : n ≠ 0) : n = (if n > 0 then 1 else -1) * (plM (fac n.natAbs) : Int) * ((plS (fac n.natAbs) : Int) * (plS (fac n.natAbs) : Int)) ∧ SqF ((if n > 0 then 1 else -1) * (plM (fac n.natAbs) : Int)) ∧ (if n > 0 then 1 else -1) * (plM (fac n.natAbs) : Int) ≠ 0 ∧ (plS (fac n.natAbs) : Int) ≠ 0 := by
  have h0 : 0 < n.natAbs := by omega
  have e := plM_prod (fac n.natAbs)
  rw [fac_prod _ h0] at e
  have e' : (n.natAbs : Int) = (plM (fac n.natAbs) : Int) * ((plS (fac n.natAbs) : Int) * (plS (fac n.natAbs) : Int)) := by
    conv => lhs; rw [e]
    rw [Int.natCast_mul, Int.natCast_mul]
  have hp := fac_prime n.natAbs n.natAbs (Nat.le_refl _) h0
  have sq : ∀ q : Nat, PrimeI q → ¬ ((q * q : Nat) : Int) ∣ (plM (fac n.natAbs) : Int) := fun q hq => plM_sqf hq _ (fun p h => (hp p h).1) (fac_asc _ _ (Nat.le_refl _) h0)
  generalize (plM (fac n.natAbs) : Int) = M at *
  generalize (plS (fac n.natAbs) : Int) = S at *
  have M0 : M ≠ 0 := fun z => by rw [z, Int.zero_mul] at e'; omega
  have S0 : S ≠ 0 := fun z => by rw [z, Int.zero_mul, Int.mul_zero] at e'; omega
  by_cases z : n > 0
  · rw [if_pos z, Int.one_mul]
    exact ⟨by rw [← e']; omega, fun q hq d => sq q hq d, M0, S0⟩
  · rw [if_neg z]
    refine ⟨?_, fun q hq d => sq q hq ?_, by omega, S0⟩
    · have : -1 * M * (S * S) = -(M * (S * S)) := by grind
      rw [this, ← e']; omega
    · have : -1 * M = -M := by omega
      rw [this] at d
      exact Int.dvd_neg.mp d
def Local (a b : Int) : Prop := ∀ p : Nat, Plc p → hil p a b = 1
/-- the first is a square modulo the second -/
theorem sol_root {a b : Int} (hb : b ≠ 0) (sf : SqF b) (h : Local a b) : SolM (b.natAbs : Nat) a := by
  have h0 : 0 < b.natAbs := by omega
  refine (sol_fac _ b.natAbs (Nat.le_refl _) h0).mpr fun q hq => ?_
  obtain ⟨hp, hd⟩ := fac_prime _ b.natAbs (Nat.le_refl _) h0 q hq
  have he := (fac_pos b.natAbs h0 q hq).2
  have hpd := fac_dvd h0 q hq
  have e1 : q.2 = 1 := by
    rcases (show q.2 = 1 ∨ 2 ≤ q.2 by omega) with e | e
    · exact e
    · refine absurd ?_ (sf q.1 hp)
      have : q.1 * q.1 ∣ b.natAbs := Nat.dvd_trans (by
        have := Nat.pow_dvd_pow q.1 e
        rwa [Nat.pow_two] at this) hpd
      exact Int.ofNat_dvd_left.mpr this
  rw [e1, Int.pow_one]
  rcases hp.two_or with e2 | ho
  · rw [e2]
    refine ⟨a, ?_⟩
    show (2 : Int) ∣ a * a - a
    rcases (show a % 2 = 0 ∨ a % 2 = 1 by omega) with z | z
    · obtain ⟨k, rfl⟩ : ∃ k, a = 2 * k := ⟨a / 2, by omega⟩
      exact ⟨2 * k * k - k, by grind⟩
    · obtain ⟨k, rfl⟩ : ∃ k, a = 2 * k + 1 := ⟨a / 2, by omega⟩
      exact ⟨2 * k * k + k, by grind⟩
  · by_cases z : (q.1 : Int) ∣ a
    · exact ⟨0, by rw [Int.zero_mul, Int.zero_sub]; exact Int.dvd_neg.mpr z⟩
    · obtain ⟨v, rfl⟩ : (q.1 : Int) ∣ b := Int.ofNat_dvd_left.mpr hd
      have nv : ¬ (q.1 : Int) ∣ v := fun ⟨k, hk⟩ => sf q.1 hp ⟨k, by rw [hk, Int.natCast_mul, Int.mul_assoc]⟩
      have v0 : v ≠ 0 := fun e => nv (by rw [e]; exact Int.dvd_zero _)
      have hh := h q.1 (.inr (.inr ho))
      rw [hil_at_odd ho, tkI_none z, tkI_mul hp.1 v0, tkI_none nv] at hh
      simp at hh
      exact (leg_sq ho z).mp hh
theorem exists_pf {n : Nat} (h : 2 ≤ n) : ∃ q, PrimeI q ∧ q ∣ n := ⟨minFac n, minFac_prime h, (minFac_spec h).1⟩
theorem not_square {a w : Int} (sf : SqF a) (h1 : a ≠ 1) (h0 : a ≠ 0) : w * w - a ≠ 0 := fun e => by
  have e' : a = w * w := by omega
  by_cases z : 2 ≤ w.natAbs
  · obtain ⟨q, hq, hd⟩ := exists_pf z
    obtain ⟨k, rfl⟩ : (q : Int) ∣ w := Int.ofNat_dvd_left.mpr hd
    exact sf q hq ⟨k * k, by rw [e', Int.natCast_mul]; grind⟩
  · rcases (show w = 0 ∨ w = 1 ∨ w = -1 by omega) with rfl | rfl | rfl <;> omega
theorem local_step {a b w r m s : Int} (ha : a ≠ 0) (hb : b ≠ 0) (hm : m ≠ 0) (hs : s ≠ 0) (h : Local a b) (e : w * w - a = b * r) (er : r = m * (s * s)) (hw : w * w - a ≠ 0) : Local a m := fun p hp => by
  have r0 : r ≠ 0 := by rw [er]; exact Int.mul_ne_zero hm (Int.mul_ne_zero hs hs)
  have h1 : hil p a (w * w - a) = 1 := sol_hil hp ha hw (x := 1) (y := 1) (z := w) (fun ⟨h, _⟩ => absurd h (by decide)) (by omega)
  rw [e, hil_mul_right hp ha hb r0, h p hp, Int.one_mul, er, hil_mul_right hp ha hm (Int.mul_ne_zero hs hs), hil_sqr_right hp ha hs, Int.mul_one] at h1
  exact h1
theorem local_swap {a b : Int} (h : Local a b) : Local b a := fun p hp => by rw [hil_sym hp]; exact h p hp
theorem local_same {a : Int} (ha : a ≠ 0) (h : Local a a) : Local (-1) a := fun p hp => by
  have h1 := hil_opp hp ha
  rw [show -a = -1 * a by omega, hil_mul_right hp ha (by decide) ha, h p hp, Int.mul_one] at h1
  rw [hil_sym hp]
  exact h1
theorem local_sq {a b m n s t : Int} (hm : m ≠ 0) (hn : n ≠ 0) (hs : s ≠ 0) (ht : t ≠ 0) (ea : a = m * (s * s)) (eb : b = n * (t * t)) (h : Local a b) : Local m n := fun p hp => by
  have h1 := h p hp
  rw [ea, eb, hil_mul hp hm (Int.mul_ne_zero hs hs) (Int.mul_ne_zero hn (Int.mul_ne_zero ht ht)), hil_sqr hp hs (Int.mul_ne_zero hn (Int.mul_ne_zero ht ht)), hil_mul_right hp hm hn (Int.mul_ne_zero ht ht), hil_sqr_right hp hm ht, Int.mul_one, Int.mul_one] at h1
  exact h1
/-- the size of the rest -/
theorem step_size {a b w r : Int} (e : w * w - a = b * r) (hw : 2 * w.natAbs ≤ b.natAbs) (hab : a.natAbs < b.natAbs) (hb : 2 ≤ b.natAbs) : 2 * r.natAbs ≤ b.natAbs := by
  have e1 : b.natAbs * r.natAbs = (w * w - a).natAbs := by rw [e, Int.natAbs_mul]
  have e2 : (w * w).natAbs = w.natAbs * w.natAbs := Int.natAbs_mul ..
  have e3 : (w * w - a).natAbs ≤ w.natAbs * w.natAbs + a.natAbs := by rw [← e2]; omega
  have e4 := Nat.mul_le_mul hw hw
  generalize w.natAbs = W at *
  generalize r.natAbs = r at *
  generalize b.natAbs = B at *
  generalize a.natAbs = A at *
  have e5 : 2 * W * (2 * W) = 4 * (W * W) := by grind
  have e6 : B * (4 * r) < B * (B + 4) := by
    rw [Nat.mul_add, Nat.mul_left_comm]
    omega
  have := Nat.lt_of_mul_lt_mul_left e6
  omega
theorem log_half {m b : Nat} (hm : 0 < m) (h : 2 * m ≤ b) : Nat.log2 m + 1 ≤ Nat.log2 b := by
  refine (Nat.le_log2 (by omega)).mpr ?_
  have := Nat.log2_self_le (n := m) (by omega)
  rw [Nat.pow_succ]
  omega
local macro_rules | `(tactic| walk_at "d1") => `(tactic| try simp only [dSeq, dSkip, dPass, dRet, dRetN, dDrop, dCond, dAsg, gNm, gTp, dOwn, dOwnL, dPar, dAug, dApp, dExt, dFrz, dFor, dLc, dBreak, dCont, dVar, dC, dOp, dT, dIsi, dNeg, dNot, dTNot, dAnd, dOr, dTAnd, dTOr, dIf, dCh, dNil, dCons, dTup, dLst, dIxO, dB, dCall, dCallW, dItems, dRng1, dRng2, dYes, fnE, startE, startW, startS, dLenO, dLenS, dIxS, dSl, dPt, dNo, wipeE, addD_int, addD_str, addD_tup, addD_lst, subD_int, mulD_int, mulD_tup, mulD_lst, fdivD_int, modD_int, powD_int, shlD_int, shrD_int, andD_int, ltD_int, leD_int, gtD_int, geD_int, eqD_ap, neD_ap, isD_ap, isNotD_ap, isNon_none, isNon_int, isNon_bool, isNon_str, isNon_tup, isNon_lst, isInt_none, isInt_int, isInt_bool, isInt_str, isInt_tup, isInt_lst, isBool_none, isBool_int, isBool_bool, isBool_str, isBool_tup, isBool_lst, isStr_none, isStr_int, isStr_bool, isStr_str, isStr_tup, isStr_lst, isTup_none, isTup_int, isTup_bool, isTup_str, isTup_tup, isTup_lst, isLst_lst, Cnd_true, Cnd_false, Cnd_not, Cnd_dec, asB_bool, forall_const, true_implies, false_implies, implies_true, decide_true, decide_false, Classical.not_not, negD_int, notD_bool, onVal_val, onOwn_own, onDic_dic, onScr_scr, onWv_wv, onInt_int, onTup_tup, onLst_lst, onItems_lst, onItems_tup, frz1_own, frz1_val, frz1_un, ixD_lst, ixD_tup, ixL_int, optD_some, optI_some, absD_int, intD_int, intD_bool, lenD_lst, lenD_tup, lenD_str, tupleD_lst, tupleD_tup, listD_lst, listD_tup, min2D_int, max2D_int, sumD_ints, allD_bls, anyD_bls, slD_lst, slD_tup, slD_str, gNl_nil, gCs_cons, par2_two, seq1_lst, seq1_tup, rng1D_int, rng2D_int, gt_z, gt_s, sp_next_int, set_z, set_s, List.map_cons, List.map_nil, List.length_cons, List.length_nil, List.cons_append, List.nil_append, List.replicate, Nat.reduceAdd, Nat.reduceSub, Nat.zero_add, shaped_int, shaped_bool, shaped_none, shaped_listI, shaped_tupI, shaped_nilL, shaped_nilT, eqv_int, eqv_bool, eqv_str, eqv_none, eqv_list_nil, List.isEmpty_nil, List.isEmpty_cons, Bool.true_eq_false, Bool.false_eq_true, decide_eq_true_eq, and_self, true_and, and_true, not_dec, Bool.not_eq_true', decide_eq_false_iff_not, atI_0, atI_1, atI_2, ite_true, ite_false, if_true, if_false, reduceIte, Bool.not_true, Bool.not_false, not_true_eq_false, not_false_eq_true, List.set_cons_zero, List.set_cons_succ, dPar3, dRev, par3_three, sortedD_ints, revD_tup, two_nat, one_nat, three_nat, dCh3, dOwnC, dPutPar, putPar_two, dZip2, zip2D_lst, zip2D_tup, dPut, isBD_bl, isNotBD_bl, dNewO, dPutO, dSortedO, putKD_int, dPar3O, dParO2, par3O_two, parO2_one, minLD_lst, dKeysW, rdPairs_nil, rdPairs_cons, onPair_ii, revD_lst, spx_law_d, spx_common, spx_least_two, spx_all_two, spx_law_common_v1, spx_law_all, spx_unit_two, spx_size_of_two, spx_law_changed, spx_law_drawn_v2, spx_law_least, spx_half, spx_eighth, spx_size_of, spx_without_twos, spx_mark, spx_law_plain, spx_power_of, spx_law_power_v2])
local macro_rules | `(tactic| walk_at "dd") => `(tactic| (walk_at "d1"; repeat (with_reducible (refine then_intro ?_); walk_at "d1")))
theorem bezN : ∀ a b : Nat, ∃ x y : Int, (a : Int) * x + (b : Int) * y = (Nat.gcd a b : Nat) := by
  intro a b
  induction a, b using Nat.gcd.induction with
  | H0 n => exact ⟨0, 1, by simp⟩
  | H1 m n hm ih =>
    obtain ⟨x, y, h⟩ := ih
    refine ⟨y - (n / m : Nat) * x, x, ?_⟩
    rw [Nat.gcd_rec, ← h]
    have e : (n : Int) = (m : Int) * ((n / m : Nat) : Int) + ((n % m : Nat) : Int) := by
      have := Nat.div_add_mod n m
      rw [← Int.natCast_mul, ← Int.natCast_add, this]
    generalize ((n / m : Nat) : Int) = q at *
    generalize ((n % m : Nat) : Int) = r at *
    rw [e]
    grind
theorem bezI (a b : Int) : ∃ x y : Int, a * x + b * y = (Int.gcd a b : Nat) := by
  obtain ⟨x, y, h⟩ := bezN a.natAbs b.natAbs
  have s : ∀ c : Int, ∃ e : Int, (c.natAbs : Int) = c * e := fun c => by
    rcases Int.natAbs_eq c with h | h
    · exact ⟨1, by omega⟩
    · exact ⟨-1, by omega⟩
  obtain ⟨e1, h1⟩ := s a
  obtain ⟨e2, h2⟩ := s b
  refine ⟨e1 * x, e2 * y, ?_⟩
  rw [← Int.mul_assoc, ← Int.mul_assoc, ← h1, ← h2]
  exact h
def PrimF (f : Form) : Prop := ∃ al be ga : Int, al * f.1 + be * f.2.1 + ga * f.2.2 = 1
theorem primF_of {f : Form} (h : Nat.gcd (Int.gcd f.1 f.2.1) f.2.2.natAbs = 1) : PrimF f := by
  obtain ⟨x, y, h1⟩ := bezI f.1 f.2.1
  obtain ⟨u, v, h2⟩ := bezI (Int.gcd f.1 f.2.1 : Nat) f.2.2
  have e : Int.gcd ((Int.gcd f.1 f.2.1 : Nat) : Int) f.2.2 = 1 := h
  rw [e, ← h1] at h2
  exact ⟨x * u, y * u, v, by rw [← show ((1 : Nat) : Int) = 1 from rfl, ← h2]; grind⟩
theorem PrimF.gcd {f : Form} (h : PrimF f) : Nat.gcd (Int.gcd f.1 f.2.1) f.2.2.natAbs = 1 := by
  obtain ⟨al, be, ga, h⟩ := h
  have d1 : ((Nat.gcd (Int.gcd f.1 f.2.1) f.2.2.natAbs : Nat) : Int) ∣ f.1 := Int.ofNat_dvd_left.mpr (Nat.dvd_trans (Nat.gcd_dvd_left _ _) (Nat.gcd_dvd_left _ _))
  have d2 : ((Nat.gcd (Int.gcd f.1 f.2.1) f.2.2.natAbs : Nat) : Int) ∣ f.2.1 := Int.ofNat_dvd_left.mpr (Nat.dvd_trans (Nat.gcd_dvd_left _ _) (Nat.gcd_dvd_right _ _))
  have d3 : ((Nat.gcd (Int.gcd f.1 f.2.1) f.2.2.natAbs : Nat) : Int) ∣ f.2.2 := Int.ofNat_dvd_left.mpr (Nat.gcd_dvd_right _ _)
  have d := Int.dvd_add (Int.dvd_add (Int.dvd_mul_of_dvd_right (b := al) d1) (Int.dvd_mul_of_dvd_right (b := be) d2)) (Int.dvd_mul_of_dvd_right (b := ga) d3)
  rw [h] at d
  exact Nat.dvd_one.mp (Int.natCast_dvd_natCast.mp d)
theorem primF_prime {f : Form} (h0 : f.1 ≠ 0) (h : ∀ p : Nat, PrimeI p → (p : Int) ∣ f.1 → (p : Int) ∣ f.2.1 → ¬ (p : Int) ∣ f.2.2) : PrimF f := by
  refine primF_of ?_
  generalize hd : Nat.gcd (Int.gcd f.1 f.2.1) f.2.2.natAbs = d
  have d1 : (d : Int) ∣ f.1 := Int.ofNat_dvd_left.mpr (hd ▸ Nat.dvd_trans (Nat.gcd_dvd_left _ _) (Nat.gcd_dvd_left _ _))
  have d2 : (d : Int) ∣ f.2.1 := Int.ofNat_dvd_left.mpr (hd ▸ Nat.dvd_trans (Nat.gcd_dvd_left _ _) (Nat.gcd_dvd_right _ _))
  have d3 : (d : Int) ∣ f.2.2 := Int.ofNat_dvd_left.mpr (hd ▸ Nat.gcd_dvd_right _ _)
  rcases (show d = 0 ∨ d = 1 ∨ 2 ≤ d by omega) with z | z | z
  · subst z
    exact absurd (Int.zero_dvd.mp d1) h0
  · exact z
  · obtain ⟨p, hp, hpd⟩ := exists_pf z
    have q : (p : Int) ∣ (d : Int) := Int.natCast_dvd_natCast.mpr hpd
    exact absurd (Int.dvd_trans q d3) (h p hp (Int.dvd_trans q d1) (Int.dvd_trans q d2))
theorem PrimF.not {f : Form} (h : PrimF f) {p : Nat} (hp : PrimeI p) (h1 : (p : Int) ∣ f.1) (h2 : (p : Int) ∣ f.2.1) : ¬ (p : Int) ∣ f.2.2 := fun h3 => by
  obtain ⟨al, be, ga, h⟩ := h
  have d := Int.dvd_add (Int.dvd_add (Int.dvd_mul_of_dvd_right (b := al) h1) (Int.dvd_mul_of_dvd_right (b := be) h2)) (Int.dvd_mul_of_dvd_right (b := ga) h3)
  rw [h] at d
  exact hp.small (by decide) (by have := hp.1; omega) d
theorem JD.sq {D : Int} {f g F : Form} {n a e h t u v : Int} (J : JD f g F n a e h t u v) (hf : Lay.disc f = D) : F.2.1 * F.2.1 - D = 4 * F.1 * (n * v - t * u) := by
  obtain ⟨_, ha, he, hh, hB, hu, hv, hF⟩ := J
  have e1 : F.2.1 * F.2.1 - D = 4 * a * (n * f.2.2 + t * f.2.1 + a * t * t) := by
    rw [hB, ← hf]
    unfold Lay.disc
    rw [ha]
    grind
  have k : n * f.2.2 + t * f.2.1 + a * t * t = e * (n * v - t * u) := by
    have c : f.2.2 = e * v - h * t := by omega
    have b : n * h = f.2.1 + a * t + e * u := by
      have e2 : 2 * (n * h) = 2 * n * h := by grind
      have e3 : 2 * (a * t) = 2 * a * t := by grind
      have e4 : 2 * (e * u) = 2 * e * u := by grind
      omega
    rw [c]
    have : n * (e * v - h * t) = n * e * v - n * h * t := by grind
    rw [this, b]
    grind
  rw [e1, k, hF]
  grind
theorem JD.disc {D : Int} {f g F : Form} {n a e h t u v : Int} (J : JD f g F n a e h t u v) (hf : Lay.disc f = D) (h0 : F.1 ≠ 0) (hc : F.2.2 = (F.2.1 * F.2.1 - D) / (4 * F.1)) : Lay.disc F = D := by
  have s := J.sq hf
  have c : F.2.2 = n * v - t * u := by
    rw [hc, s]
    exact Int.mul_ediv_cancel_left _ (by omega)
  unfold Lay.disc
  rw [c]
  omega
/-- the numbers that the program finds -/
theorem joined_jd {f g : Form} {n a e h m x z y w q C : Int} (hd : disc f = disc g) (n0 : n ≠ 0) (ha : f.1 = n * a) (he : g.1 = n * e) (hh : f.2.1 + g.2.1 = 2 * (n * h)) {dl : Int} (hdl : g.2.1 - f.2.1 = 2 * dl) (hm : f.1 * x + g.1 * z = m) (hn : m * y + n * h * w = n) :
    ∃ u v, JD f g (a * e, f.2.1 + 2 * a * (y * x * dl - w * f.2.2 - e * q), C) n a e h (y * x * dl - w * f.2.2 - e * q) u v := by
  have key : n * h * dl = g.1 * g.2.2 - f.1 * f.2.2 := by
    unfold disc at hd
    have e1 : 4 * (n * h * dl) = (f.2.1 + g.2.1) * (g.2.1 - f.2.1) := by rw [hh, hdl]; grind
    have e2 : (f.2.1 + g.2.1) * (g.2.1 - f.2.1) = g.2.1 * g.2.1 - f.2.1 * f.2.1 := by grind
    have e3 : 4 * g.1 * g.2.2 = 4 * (g.1 * g.2.2) := Int.mul_assoc ..
    have e4 : 4 * f.1 * f.2.2 = 4 * (f.1 * f.2.2) := Int.mul_assoc ..
    omega
  have nn : n = f.1 * x * y + g.1 * z * y + n * h * w := by rw [← hm] at hn; rw [← hn]; grind
  refine ⟨dl * y * z + w * g.2.2 + a * q, y * (x * g.2.2 + z * f.2.2) - h * q, n0, ha, he, by rw [hh]; grind, rfl, ?_, ?_, rfl⟩
  · show g.2.1 = f.2.1 + 2 * a * (y * x * dl - w * f.2.2 - e * q) + 2 * e * (dl * y * z + w * g.2.2 + a * q)
    have e1 : g.2.1 = f.2.1 + 2 * dl := by omega
    rw [e1]
    have e2 : n * dl = n * (a * (y * x * dl - w * f.2.2) + e * (dl * y * z + w * g.2.2)) := by
      have l : n * dl = f.1 * x * y * dl + g.1 * z * y * dl + w * (n * h * dl) := by
        conv => lhs; rw [nn]
        grind
      rw [l, key, ha, he]
      grind
    have e3 := Int.eq_of_mul_eq_mul_left n0 e2
    grind
  · have e2 : n * (h * (y * x * dl - w * f.2.2 - e * q) + f.2.2) = n * (e * (y * (x * g.2.2 + z * f.2.2) - h * q)) := by
      have l : n * (h * (y * x * dl - w * f.2.2 - e * q) + f.2.2) = y * x * (n * h * dl) - w * f.2.2 * (n * h) - n * h * e * q + n * f.2.2 := by grind
      have r : n * f.2.2 = (f.1 * x * y + g.1 * z * y + n * h * w) * f.2.2 := by rw [← nn]
      rw [l, r, key, he, ha]
      grind
    exact Int.eq_of_mul_eq_mul_left n0 e2
/-- first numbers without a common divisor -/
theorem coprime_jd {f g : Form} {B t u C : Int} (hd : disc f = disc g) (hg : Int.gcd f.1 g.1 = 1) (hB : B = f.2.1 + 2 * f.1 * t) (hu : g.2.1 = B + 2 * g.1 * u) : ∃ h v, JD f g (f.1 * g.1, B, C) 1 f.1 g.1 h t u v := by
  have hh : f.2.1 + g.2.1 = 2 * (f.2.1 + f.1 * t + g.1 * u) := by rw [hu, hB]; grind
  generalize f.2.1 + f.1 * t + g.1 * u = h at hh
  have key : f.1 * (h * t + f.2.2) = g.1 * (g.2.2 - u * h) := by
    unfold disc at hd
    have e1 : f.2.1 = 2 * h - g.2.1 := by omega
    have e2 : f.1 * t = g.2.1 - h - g.1 * u := by
      have : 2 * f.1 * t = 2 * (f.1 * t) := Int.mul_assoc ..
      have : 2 * g.1 * u = 2 * (g.1 * u) := Int.mul_assoc ..
      omega
    have e3 : f.1 * (h * t + f.2.2) = h * (f.1 * t) + f.1 * f.2.2 := by grind
    have e4 : 4 * (f.1 * f.2.2) = f.2.1 * f.2.1 - g.2.1 * g.2.1 + 4 * (g.1 * g.2.2) := by
      have : 4 * f.1 * f.2.2 = 4 * (f.1 * f.2.2) := Int.mul_assoc ..
      have : 4 * g.1 * g.2.2 = 4 * (g.1 * g.2.2) := Int.mul_assoc ..
      omega
    have e5 : f.2.1 * f.2.1 - g.2.1 * g.2.1 = 4 * (h * (h - g.2.1)) := by rw [e1]; grind
    rw [e3, e2]
    have e6 : f.1 * f.2.2 = h * (h - g.2.1) + g.1 * g.2.2 := by omega
    rw [e6]
    grind
  obtain ⟨x, y, hb⟩ := bezI f.1 g.1
  rw [hg] at hb
  refine ⟨h, y * (h * t + f.2.2) + x * (g.2.2 - u * h), by decide, by omega, by omega, by rw [hh]; omega, hB, hu, ?_, rfl⟩
  have hb' : f.1 * x + g.1 * y = 1 := hb
  have : h * t + f.2.2 = (f.1 * x + g.1 * y) * (h * t + f.2.2) := by rw [hb', Int.one_mul]
  rw [this]
  have e2 : (f.1 * x + g.1 * y) * (h * t + f.2.2) = x * (f.1 * (h * t + f.2.2)) + g.1 * (y * (h * t + f.2.2)) := by grind
  rw [e2, key]
  grind
theorem coprime_prim {f g F : Form} {B t u h v : Int} (J : JD f g F 1 f.1 g.1 h t u v) (hg : Int.gcd f.1 g.1 = 1) (f0 : f.1 ≠ 0) (g0 : g.1 ≠ 0) {D : Int} (hf : Lay.disc f = D) (hg' : Lay.disc g = D) (hF : Lay.disc F = D) (pf : PrimF f) (pg : PrimF g) : PrimF F := by
  have s := J.sq hf
  obtain ⟨_, _, _, hh, hB, hu, hv, hF1⟩ := J
  have F0 : F.1 ≠ 0 := by rw [hF1]; exact Int.mul_ne_zero f0 g0
  have hC : F.2.2 = v - t * u := by
    unfold Lay.disc at hF
    rw [Int.one_mul] at s
    have : 4 * F.1 * F.2.2 = 4 * F.1 * (v - t * u) := by omega
    exact Int.eq_of_mul_eq_mul_left (by omega) this
  refine primF_prime F0 fun p hp h1 h2 h3 => ?_
  rw [hF1] at h1
  rcases hp.euclid h1 with d | d
  · -- p divides the first number of f
    have b : (p : Int) ∣ f.2.1 := by
      have : f.2.1 = F.2.1 - f.1 * (2 * t) := by rw [hB]; grind
      rw [this]
      exact Int.dvd_sub h2 (Int.dvd_mul_of_dvd_left d)
    refine pf.not hp d b ?_
    have e : f.2.2 = g.1 * F.2.2 - t * f.2.1 - f.1 * (t * t) := by
      have b' : h = f.2.1 + f.1 * t + g.1 * u := by
        have : 2 * f.1 * t = 2 * (f.1 * t) := Int.mul_assoc ..
        have : 2 * g.1 * u = 2 * (g.1 * u) := Int.mul_assoc ..
        omega
      have c : f.2.2 = g.1 * v - h * t := by omega
      rw [c, hC, b']
      grind
    rw [e]
    exact Int.dvd_sub (Int.dvd_sub (Int.dvd_mul_of_dvd_right h3) (Int.dvd_mul_of_dvd_right b)) (Int.dvd_mul_of_dvd_left d)
  · have b : (p : Int) ∣ g.2.1 := by
      have : g.2.1 = F.2.1 + g.1 * (2 * u) := by rw [hu]; grind
      rw [this]
      exact Int.dvd_add h2 (Int.dvd_mul_of_dvd_left d)
    refine pg.not hp d b ?_
    have e : g.2.2 = f.1 * F.2.2 + u * g.2.1 - g.1 * (u * u) := by
      have e0 : 4 * g.1 * g.2.2 = 4 * g.1 * (f.1 * F.2.2 + u * g.2.1 - g.1 * (u * u)) := by
        unfold Lay.disc at hg' hF
        have e1 : 4 * g.1 * (f.1 * F.2.2 + u * g.2.1 - g.1 * (u * u)) = 4 * F.1 * F.2.2 + (g.2.1 * g.2.1 - F.2.1 * F.2.1) := by
          rw [hF1]
          have : F.2.1 = g.2.1 - 2 * g.1 * u := by omega
          rw [this]
          grind
        rw [e1]
        omega
      exact Int.eq_of_mul_eq_mul_left (by omega) e0
    rw [e]
    exact Int.dvd_sub (Int.dvd_add (Int.dvd_mul_of_dvd_right h3) (Int.dvd_mul_of_dvd_right b)) (Int.dvd_mul_of_dvd_left d)
/-- each form leads to a least one -/
theorem exists_red {f : Form} (h0 : 0 < f.1) (hd : Lay.disc f < 0) : ∃ g, Eqv f g ∧ Red g := by
  have hb : ∃ k : Nat, f.1.natAbs < 2 ^ k ∧ f.2.1.natAbs < 2 ^ k ∧ f.2.2.natAbs < 2 ^ k := by
    refine ⟨f.1.natAbs + f.2.1.natAbs + f.2.2.natAbs, ?_, ?_, ?_⟩ <;> refine Nat.lt_of_lt_of_le Nat.lt_two_pow_self (Nat.pow_le_pow_right (by decide) (by omega))
  obtain ⟨k, ab, bb, cb⟩ := hb
  have db : (Lay.disc f).natAbs < 2 ^ (2 * k + 3) := disc_bits (a := f.1) (b := f.2.1) (c := f.2.2) h0 hd ab bb cb
  have go : ∀ (m : Nat) (g : Form), leM g ≤ m → LeI f k g → ∃ g, Eqv f g ∧ Red g := by
    intro m
    induction m with
    | zero =>
      intro g hm hi
      by_cases r : Red g
      · exact ⟨g, hi.eq.eqv, r⟩
      · by_cases z : -g.1 < g.2.1 ∧ g.2.1 ≤ g.1
        · have := (hi.swap hd z r).2; omega
        · have := (hi.shift hd db z).2; omega
    | succ m ih =>
      intro g hm hi
      by_cases r : Red g
      · exact ⟨g, hi.eq.eqv, r⟩
      · by_cases z : -g.1 < g.2.1 ∧ g.2.1 ≤ g.1
        · obtain ⟨s1, s2⟩ := hi.swap hd z r
          exact ih _ (by omega) s1
        · obtain ⟨s1, s2⟩ := hi.shift hd db z
          exact ih _ (by omega) s1
  exact go _ f (Nat.le_refl _) ⟨h0, .refl _, fun _ => rfl, ab, bb, Nat.lt_of_lt_of_le cb (Nat.pow_le_pow_right (by decide) (by omega))⟩
theorem PrimF.eqv {f g : Form} (h : PrimF f) (e : Eqv f g) : PrimF g := by
  obtain ⟨p, q, r, s, hd, he⟩ := e.symm
  obtain ⟨al, be, ga, h⟩ := h
  rw [he] at h
  unfold act at h
  simp only at h
  exact ⟨al * p * p + be * (2 * p * q) + ga * q * q, al * p * r + be * (p * s + q * r) + ga * q * s, al * r * r + be * (2 * r * s) + ga * s * s, by rw [← h]; grind⟩
/-- F is the least form of the joining of f and g -/
structure JoinS (D : Int) (f g F : Form) : Prop where
  pos : 0 < F.1
  disc : Lay.disc F = D
  red : Red F
  sim : Sim D (Pr D (Lat f) (Lat g)) (Lat F)
theorem JoinS.uniq {D : Int} (hD : D < 0) {f g F G : Form} (h1 : JoinS D f g F) (h2 : JoinS D f g G) : F = G :=
  sim_red hD h1.pos h2.pos h1.disc h2.disc h1.red h2.red (h1.sim.symm.trans hD h2.sim)
theorem JoinS.congr {D : Int} (hD : D < 0) {f g f' g' F : Form} (h : JoinS D f g F) (h1 : Sim D (Lat f') (Lat f)) (h2 : Sim D (Lat g') (Lat g)) : JoinS D f' g' F :=
  ⟨h.pos, h.disc, h.red, (Sim.pr hD h1 h2).trans hD h.sim⟩
theorem JoinS.comm {D : Int} (hD : D < 0) {f g F : Form} (h : JoinS D f g F) : JoinS D g f F := ⟨h.pos, h.disc, h.red, Sim.comm.trans hD h.sim⟩
theorem JoinS.assoc {D : Int} (hD : D < 0) {f g h A B F G : Form} (h1 : JoinS D f g A) (h2 : JoinS D A h F) (h3 : JoinS D g h B) (h4 : JoinS D f B G) : F = G := by
  refine sim_red hD h2.pos h4.pos h2.disc h4.disc h2.red h4.red ?_
  have e1 : Sim D (Pr D (Pr D (Lat f) (Lat g)) (Lat h)) (Lat F) := (Sim.left h1.sim).trans hD h2.sim
  have e2 : Sim D (Pr D (Lat f) (Pr D (Lat g) (Lat h))) (Lat G) := (Sim.right hD h3.sim).trans hD h4.sim
  exact (e1.symm.trans hD Sim.assoc).trans hD e2
theorem JoinS.of {D : Int} (hD : D < 0) {f g F0 F : Form} {n a e h t u v : Int} (J : JD f g F0 n a e h t u v) (hf : Lay.disc f = D) (pf : PrimF f) (F0p : 0 < F0.1) (F0d : Lay.disc F0 = D) (hr : Eqv F0 F) (rF : Red F) : JoinS D f g F := by
  obtain ⟨al, be, ga, pr⟩ := pf
  have ed : Lay.disc F = D := by rw [← F0d]; exact hr.disc
  exact ⟨hr.pos F0p (by rw [F0d]; exact hD), ed, rF, (join_sim J hf pr).trans hD (hr.sim hD F0p F0d)⟩
/-- the law's list holds all least forms -/
theorem allF_has {d : Int} {f : Form} (h0 : 0 < f.1) (hr : Red f) (hd : Lay.disc f = d) (hp : PrimF f) : f ∈ allF d 1 := by
  have h1 := red_disc h0 hr
  rw [hd] at h1
  have ha : ((f.1.toNat : Nat) : Int) = f.1 := Int.toNat_of_nonneg (by omega)
  have row : f ∈ rowF d f.1.toNat (bsOf f.1.toNat) := by
    have e4 : f.2.1 * f.2.1 - d = 4 * f.1 * f.2.2 := by rw [← hd]; unfold Lay.disc; omega
    have hc : cOf d f.1.toNat f.2.1 = f.2.2 := by
      unfold cOf
      rw [ha, e4]
      exact Int.mul_ediv_cancel_left _ (by omega)
    unfold rowF
    refine List.mem_map.mpr ⟨f.2.1, List.mem_filter.mpr ⟨?_, ?_⟩, ?_⟩
    · unfold bsOf
      have r1 := hr.1
      have r2 := hr.2.1
      refine List.mem_map.mpr ⟨(f.2.1 + f.1 - 1).toNat, List.mem_range.mpr (by omega), by omega⟩
    · unfold okF
      rw [Bool.and_eq_true, Bool.and_eq_true, decide_eq_true_eq, decide_eq_true_eq, decide_eq_true_eq, hc, ha, e4]
      exact ⟨⟨Int.mul_emod_right _ _, hr⟩, hp.gcd⟩
    · rw [hc, ha]
  have up : ∀ (n a : Nat), f.1.toNat - a = n → 0 < a → a ≤ f.1.toNat → f ∈ allF d a := by
    intro n
    induction n with
    | zero =>
      intro a h a0 ale
      obtain rfl : a = f.1.toNat := by omega
      rw [allF_more (by rw [ha, Int.mul_assoc]; omega)]
      exact List.mem_append.mpr (.inl row)
    | succ n ih =>
      intro a h a0 ale
      have le : 3 * (a : Int) * a ≤ -d := by
        have := Int.mul_le_mul (show (a : Int) ≤ f.1 by omega) (show (a : Int) ≤ f.1 by omega) (by omega) (by omega)
        rw [Int.mul_assoc]
        omega
      rw [allF_more le]
      exact List.mem_append.mpr (.inr (ih (a + 1) (by omega) (by omega) (by omega)))
  exact up _ 1 rfl Nat.one_pos (by omega)
local macro_rules | `(tactic| walk_at "d1") => `(tactic| try simp only [dSeq, dSkip, dPass, dRet, dRetN, dDrop, dCond, dAsg, gNm, gTp, dOwn, dOwnL, dPar, dAug, dApp, dExt, dFrz, dFor, dLc, dBreak, dCont, dVar, dC, dOp, dT, dIsi, dNeg, dNot, dTNot, dAnd, dOr, dTAnd, dTOr, dIf, dCh, dNil, dCons, dTup, dLst, dIxO, dB, dCall, dCallW, dItems, dRng1, dRng2, dYes, fnE, startE, startW, startS, dLenO, dLenS, dIxS, dSl, dPt, dNo, wipeE, addD_int, addD_str, addD_tup, addD_lst, subD_int, mulD_int, mulD_tup, mulD_lst, fdivD_int, modD_int, powD_int, shlD_int, shrD_int, andD_int, ltD_int, leD_int, gtD_int, geD_int, eqD_ap, neD_ap, isD_ap, isNotD_ap, isNon_none, isNon_int, isNon_bool, isNon_str, isNon_tup, isNon_lst, isInt_none, isInt_int, isInt_bool, isInt_str, isInt_tup, isInt_lst, isBool_none, isBool_int, isBool_bool, isBool_str, isBool_tup, isBool_lst, isStr_none, isStr_int, isStr_bool, isStr_str, isStr_tup, isStr_lst, isTup_none, isTup_int, isTup_bool, isTup_str, isTup_tup, isTup_lst, isLst_lst, Cnd_true, Cnd_false, Cnd_not, Cnd_dec, asB_bool, forall_const, true_implies, false_implies, implies_true, decide_true, decide_false, Classical.not_not, negD_int, notD_bool, onVal_val, onOwn_own, onDic_dic, onScr_scr, onWv_wv, onInt_int, onTup_tup, onLst_lst, onItems_lst, onItems_tup, frz1_own, frz1_val, frz1_un, ixD_lst, ixD_tup, ixL_int, optD_some, optI_some, absD_int, intD_int, intD_bool, lenD_lst, lenD_tup, lenD_str, tupleD_lst, tupleD_tup, listD_lst, listD_tup, min2D_int, max2D_int, sumD_ints, allD_bls, anyD_bls, slD_lst, slD_tup, slD_str, gNl_nil, gCs_cons, par2_two, seq1_lst, seq1_tup, rng1D_int, rng2D_int, gt_z, gt_s, sp_next_int, set_z, set_s, List.map_cons, List.map_nil, List.length_cons, List.length_nil, List.cons_append, List.nil_append, List.replicate, Nat.reduceAdd, Nat.reduceSub, Nat.zero_add, shaped_int, shaped_bool, shaped_none, shaped_listI, shaped_tupI, shaped_nilL, shaped_nilT, eqv_int, eqv_bool, eqv_str, eqv_none, eqv_list_nil, List.isEmpty_nil, List.isEmpty_cons, Bool.true_eq_false, Bool.false_eq_true, decide_eq_true_eq, and_self, true_and, and_true, not_dec, Bool.not_eq_true', decide_eq_false_iff_not, atI_0, atI_1, atI_2, ite_true, ite_false, if_true, if_false, reduceIte, Bool.not_true, Bool.not_false, not_true_eq_false, not_false_eq_true, List.set_cons_zero, List.set_cons_succ, dPar3, dRev, par3_three, sortedD_ints, revD_tup, two_nat, one_nat, three_nat, dCh3, dOwnC, dPutPar, putPar_two, dZip2, zip2D_lst, zip2D_tup, dPut, isBD_bl, isNotBD_bl, dNewO, dPutO, dSortedO, putKD_int, dPar3O, dParO2, par3O_two, parO2_one, minLD_lst, dKeysW, rdPairs_nil, rdPairs_cons, onPair_ii, revD_lst, spx_law_d, spx_common, spx_least_two, spx_all_two, spx_law_common_v1, spx_law_all, spx_unit_two, spx_size_of_two, spx_law_changed, spx_law_drawn_v2, spx_law_least, spx_half, spx_eighth, spx_size_of, spx_without_twos, spx_mark, spx_law_plain, spx_power_of, spx_law_power_v2])
local macro_rules | `(tactic| walk_at "dd") => `(tactic| (walk_at "d1"; repeat (with_reducible (refine then_intro ?_); walk_at "d1")))
def rd_law_turn_far_b1 : DTS :=
  (dAug 2 (fun i j => i + j) (dC (.int 1)))
def rd_law_turn_far : DTS :=
  (dSeq (dAsg (dC (.int 0)) (gNm 2)) (dSeq (dWhile (dT (dOp neD (dOp modD (dB intD (dCons (dOp subD (dOp mulD (dVar 0) (dVar 2)) (dC (.int 1))) dNil)) (dVar 1)) (dC (.int 0)))) rd_law_turn_far_b1) (dRet (dTup (dCons (dVar 0) (dCons (dOp fdivD (dOp subD (dOp mulD (dVar 0) (dVar 2)) (dC (.int 1))) (dVar 1)) (dCons (dVar 1) (dCons (dVar 2) dNil))))))))
def sp_law_turn_far : Lay.Spec := fun ds R => match ds with
  | [.int x, .int y] => (0 < y ∧ y ≤ 100 ∧ x.natAbs ≤ 100 ∧ Int.gcd x y = 1) ∧ ∀ q s : Int, x * s - q * y = 1 → q.natAbs ≤ 20000 → s.natAbs ≤ 110 → R (.tuple [.int x, .int q, .int y, .int s])
  | _ => False
theorem spx_law_turn_far {x y : Int} {R : D → Prop} : sp_law_turn_far [.int x, .int y] R = ((0 < y ∧ y ≤ 100 ∧ x.natAbs ≤ 100 ∧ Int.gcd x y = 1) ∧ ∀ q s : Int, x * s - q * y = 1 → q.natAbs ≤ 20000 → s.natAbs ≤ 110 → R (.tuple [.int x, .int q, .int y, .int s])) := rfl
/-- what the search ends with -/
theorem turn_fin {x y s : Int} (y0 : 0 < y) (xb : x.natAbs ≤ 100) (sb : s.natAbs ≤ 110) (h : (x * s - 1) % y = 0) : x * s - (x * s - 1) / y * y = 1 ∧ ((x * s - 1) / y).natAbs ≤ 20000 := by
  have e := Int.mul_ediv_add_emod (x * s - 1) y
  have h1 : (x * s).natAbs ≤ 100 * 110 := by rw [Int.natAbs_mul]; exact Nat.mul_le_mul xb sb
  refine ⟨?_, ?_⟩
  · have : y * ((x * s - 1) / y) = (x * s - 1) / y * y := Int.mul_comm ..
    omega
  · have := Int.natAbs_ediv_le_natAbs (x * s - 1) y
    omega
theorem turn_has {x y : Int} (y0 : 0 < y) (h : Int.gcd x y = 1) : ∃ s : Int, 0 ≤ s ∧ s < y ∧ (x * s - 1) % y = 0 := by
  obtain ⟨u, v, e⟩ := bezI x y
  rw [h] at e
  have e' : x * u + y * v = 1 := e
  refine ⟨u % y, Int.emod_nonneg _ (by omega), Int.emod_lt_of_pos _ y0, ?_⟩
  have k := Int.mul_ediv_add_emod u y
  have : x * (u % y) - 1 = y * (-(v + x * (u / y))) := by
    have : u % y = u - y * (u / y) := by omega
    rw [this, ← e']
    grind
  rw [this]
  exact Int.mul_emod_right _ _
theorem ok_law_turn_far : ∀ ds R, sp_law_turn_far ds R → rd_law_turn_far (fnE R) (startE 3 ds) := by
  intro ds R h
  unfold sp_law_turn_far at h
  split at h
  · rename_i x y
    obtain ⟨⟨y0, yb, xb, hg⟩, h⟩ := h
    obtain ⟨s0, s1, s2, s3⟩ := turn_has y0 hg
    unfold rd_law_turn_far
    walk_at "dd"
    refine while_by (fun (s : Int) => [.val (.int x), .val (.int y), .val (.int s)]) (fun s => 0 ≤ s ∧ s ≤ s0) (fun s => (s0 - s).toNat) 0 rfl ⟨Int.le_refl 0, s1⟩ ?_
    rintro s ⟨p1, p2⟩ bk
    have m1 : CMulW x s := mulOk (n := 10) (m := 10) (by omega) (by omega) (by decide)
    walk_at "dd"
    rw [fmod_pos _ y0]
    refine ⟨m1, by omega, fun z => ?_, fun z => ?_⟩
    · refine then_intro ?_
      walk_at "dd"
      rw [fdiv_pos _ y0]
      obtain ⟨k1, k2⟩ := turn_fin y0 xb (show s.natAbs ≤ 110 by omega) z
      exact ⟨m1, divOk (by omega) (n := 10) (by omega) (by decide), h _ _ k1 k2 (by omega)⟩
    · unfold rd_law_turn_far_b1
      walk_at "dd"
      have : s ≠ s0 := fun e => z (by rw [e]; exact s3)
      exact ⟨s + 1, rfl, ⟨by omega, by omega⟩, by omega⟩
  · exact h.elim
local macro_rules | `(tactic| walk_at "d1") => `(tactic| try simp only [dSeq, dSkip, dPass, dRet, dRetN, dDrop, dCond, dAsg, gNm, gTp, dOwn, dOwnL, dPar, dAug, dApp, dExt, dFrz, dFor, dLc, dBreak, dCont, dVar, dC, dOp, dT, dIsi, dNeg, dNot, dTNot, dAnd, dOr, dTAnd, dTOr, dIf, dCh, dNil, dCons, dTup, dLst, dIxO, dB, dCall, dCallW, dItems, dRng1, dRng2, dYes, fnE, startE, startW, startS, dLenO, dLenS, dIxS, dSl, dPt, dNo, wipeE, addD_int, addD_str, addD_tup, addD_lst, subD_int, mulD_int, mulD_tup, mulD_lst, fdivD_int, modD_int, powD_int, shlD_int, shrD_int, andD_int, ltD_int, leD_int, gtD_int, geD_int, eqD_ap, neD_ap, isD_ap, isNotD_ap, isNon_none, isNon_int, isNon_bool, isNon_str, isNon_tup, isNon_lst, isInt_none, isInt_int, isInt_bool, isInt_str, isInt_tup, isInt_lst, isBool_none, isBool_int, isBool_bool, isBool_str, isBool_tup, isBool_lst, isStr_none, isStr_int, isStr_bool, isStr_str, isStr_tup, isStr_lst, isTup_none, isTup_int, isTup_bool, isTup_str, isTup_tup, isTup_lst, isLst_lst, Cnd_true, Cnd_false, Cnd_not, Cnd_dec, asB_bool, forall_const, true_implies, false_implies, implies_true, decide_true, decide_false, Classical.not_not, negD_int, notD_bool, onVal_val, onOwn_own, onDic_dic, onScr_scr, onWv_wv, onInt_int, onTup_tup, onLst_lst, onItems_lst, onItems_tup, frz1_own, frz1_val, frz1_un, ixD_lst, ixD_tup, ixL_int, optD_some, optI_some, absD_int, intD_int, intD_bool, lenD_lst, lenD_tup, lenD_str, tupleD_lst, tupleD_tup, listD_lst, listD_tup, min2D_int, max2D_int, sumD_ints, allD_bls, anyD_bls, slD_lst, slD_tup, slD_str, gNl_nil, gCs_cons, par2_two, seq1_lst, seq1_tup, rng1D_int, rng2D_int, gt_z, gt_s, sp_next_int, set_z, set_s, List.map_cons, List.map_nil, List.length_cons, List.length_nil, List.cons_append, List.nil_append, List.replicate, Nat.reduceAdd, Nat.reduceSub, Nat.zero_add, shaped_int, shaped_bool, shaped_none, shaped_listI, shaped_tupI, shaped_nilL, shaped_nilT, eqv_int, eqv_bool, eqv_str, eqv_none, eqv_list_nil, List.isEmpty_nil, List.isEmpty_cons, Bool.true_eq_false, Bool.false_eq_true, decide_eq_true_eq, and_self, true_and, and_true, not_dec, Bool.not_eq_true', decide_eq_false_iff_not, atI_0, atI_1, atI_2, ite_true, ite_false, if_true, if_false, reduceIte, Bool.not_true, Bool.not_false, not_true_eq_false, not_false_eq_true, List.set_cons_zero, List.set_cons_succ, dPar3, dRev, par3_three, sortedD_ints, revD_tup, two_nat, one_nat, three_nat, dCh3, dOwnC, dPutPar, putPar_two, dZip2, zip2D_lst, zip2D_tup, dPut, isBD_bl, isNotBD_bl, dNewO, dPutO, dSortedO, putKD_int, dPar3O, dParO2, par3O_two, parO2_one, minLD_lst, dKeysW, rdPairs_nil, rdPairs_cons, onPair_ii, revD_lst, spx_law_d, spx_common, spx_least_two, spx_all_two, spx_law_common_v1, spx_law_all, spx_unit_two, spx_size_of_two, spx_law_changed, spx_law_drawn_v2, spx_law_least, spx_half, spx_eighth, spx_size_of, spx_without_twos, spx_mark, spx_law_plain, spx_power_of, spx_law_power_v2, spx_law_turn_far])
local macro_rules | `(tactic| walk_at "dd") => `(tactic| (walk_at "d1"; repeat (with_reducible (refine then_intro ?_); walk_at "d1")))
def rd_law_turn_to_b1 : DTS :=
  (dSeq (dCond (dTAnd (dT (dOp eqD (dVar 1) (dC (.int 0)))) (dT (dOp eqD (dOp mulD (dVar 0) (dVar 2)) (dC (.int 1))))) (dRet (dTup (dCons (dVar 0) (dCons (dC (.int 0)) (dCons (dC (.int 0)) (dCons (dVar 2) dNil)))))) dSkip) (dCond (dTAnd (dT (dOp neD (dVar 1) (dC (.int 0)))) (dT (dOp eqD (dOp modD (dB intD (dCons (dOp subD (dOp mulD (dVar 0) (dVar 2)) (dC (.int 1))) dNil)) (dVar 1)) (dC (.int 0))))) (dRet (dTup (dCons (dVar 0) (dCons (dOp fdivD (dOp subD (dOp mulD (dVar 0) (dVar 2)) (dC (.int 1))) (dVar 1)) (dCons (dVar 1) (dCons (dVar 2) dNil)))))) dSkip))
def rd_law_turn_to : DTS :=
  (dSeq (dFor (dRng2 (dCons (dOp subD (dNeg (dB absD (dCons (dVar 0) dNil))) (dC (.int 1))) (dCons (dOp addD (dB absD (dCons (dVar 0) dNil)) (dC (.int 2))) dNil))) (gNm 2) rd_law_turn_to_b1) (dSeq (dCond (dT (dOp eqD (dVar 1) (dC (.int 1)))) (dRet (dTup (dCons (dVar 0) (dCons (dNeg (dC (.int 1))) (dCons (dC (.int 1)) (dCons (dC (.int 0)) dNil)))))) dSkip) (dRet (dCall sp_law_turn_far (dCons (dVar 0) (dCons (dVar 1) dNil))))))
def sp_law_turn_to : Lay.Spec := fun ds R => match ds with
  | [.int x, .int y] => (0 ≤ y ∧ y ≤ 100 ∧ x.natAbs ≤ 100 ∧ Int.gcd x y = 1) ∧ ∀ q s : Int, x * s - q * y = 1 → q.natAbs ≤ 20000 → s.natAbs ≤ 110 → R (.tuple [.int x, .int q, .int y, .int s])
  | _ => False
theorem spx_law_turn_to {x y : Int} {R : D → Prop} : sp_law_turn_to [.int x, .int y] R = ((0 ≤ y ∧ y ≤ 100 ∧ x.natAbs ≤ 100 ∧ Int.gcd x y = 1) ∧ ∀ q s : Int, x * s - q * y = 1 → q.natAbs ≤ 20000 → s.natAbs ≤ 110 → R (.tuple [.int x, .int q, .int y, .int s])) := rfl
theorem ok_law_turn_to : ∀ ds R, sp_law_turn_to ds R → rd_law_turn_to (fnE R) (startE 3 ds) := by
  intro ds R h
  unfold sp_law_turn_to at h
  split at h
  · rename_i x y
    obtain ⟨⟨y0, yb, xb, hg⟩, h⟩ := h
    have hp62 : (1000 : Int) < 2 ^ 62 := by decide
    have hm62 : -(2 : Int) ^ 62 ≤ -1000 := by decide
    unfold rd_law_turn_to
    walk_at "dd"
    refine ⟨⟨by omega, by omega, by omega, by omega⟩, ?_⟩
    generalize hlo : -(x.natAbs : Int) - 1 = lo
    generalize hcnt : ((x.natAbs : Int) + 2 - lo).toNat = cnt
    refine for_by (fun (s : Sl) => [.val (.int x), .val (.int y), s]) (fun i _ => y = 0 → ∀ j : Nat, j < i → x * (lo + (j : Int)) ≠ 1) .un rfl (fun _ j hj => absurd hj (Nat.not_lt_zero _)) ?_ ?_
    · rintro i d hd u hi bk
      obtain ⟨il, rfl⟩ := rangeD_get hd
      have sb : (lo + (i : Int)).natAbs ≤ 101 := by omega
      generalize hs : lo + (i : Int) = s at *
      have m1 : CMulW x s := mulOk (n := 10) (m := 10) (by omega) (by omega) (by decide)
      unfold rd_law_turn_to_b1
      walk_at "dd"
      refine ⟨fun z => ⟨m1, fun w => ?_, fun w => ?_⟩, fun z => ?_⟩
      · subst z
        exact h 0 s (by omega) (by decide) (by omega)
      · refine then_intro ?_
        walk_at "dd"
        refine ⟨fun _ => ⟨_, rfl, fun _ j hj => ?_⟩, fun k => absurd z k⟩
        rcases (show j < i ∨ j = i by omega) with k | rfl
        · exact hi z j k
        · rw [hs]; exact w
      · refine then_intro ?_
        walk_at "dd"
        have yp : 0 < y := by omega
        rw [fmod_pos _ yp]
        refine ⟨fun k => absurd k z, fun _ => ⟨m1, by omega, fun w => ⟨m1, ?_⟩, fun w => ⟨_, rfl, fun k => absurd k z⟩⟩⟩
        rw [fdiv_pos _ yp]
        obtain ⟨k1, k2⟩ := turn_fin yp xb (show s.natAbs ≤ 110 by omega) w
        exact ⟨divOk (by omega) (n := 10) (by omega) (by decide), h _ _ k1 k2 (by omega)⟩
    · rintro u hu
      rw [rangeD_length] at hu
      have yp : 0 < y := by
        rcases (show y = 0 ∨ 0 < y by omega) with z | z
        · exfalso
          subst z
          rw [Int.gcd_zero] at hg
          rcases (show x = 1 ∨ x = -1 by omega) with rfl | rfl
          · exact hu rfl 3 (by omega) (by rw [← hlo]; decide)
          · exact hu rfl 1 (by omega) (by rw [← hlo]; decide)
        · exact z
      walk_at "dd"
      refine ⟨fun z => ?_, fun _ => ?_⟩
      · subst z
        exact h (-1) 0 (by omega) (by decide) (by decide)
      · refine then_intro ?_
        walk_at "dd"
        exact ⟨⟨yp, yb, xb, hg⟩, h⟩
  · exact h.elim
local macro_rules | `(tactic| walk_at "d1") => `(tactic| try simp only [dSeq, dSkip, dPass, dRet, dRetN, dDrop, dCond, dAsg, gNm, gTp, dOwn, dOwnL, dPar, dAug, dApp, dExt, dFrz, dFor, dLc, dBreak, dCont, dVar, dC, dOp, dT, dIsi, dNeg, dNot, dTNot, dAnd, dOr, dTAnd, dTOr, dIf, dCh, dNil, dCons, dTup, dLst, dIxO, dB, dCall, dCallW, dItems, dRng1, dRng2, dYes, fnE, startE, startW, startS, dLenO, dLenS, dIxS, dSl, dPt, dNo, wipeE, addD_int, addD_str, addD_tup, addD_lst, subD_int, mulD_int, mulD_tup, mulD_lst, fdivD_int, modD_int, powD_int, shlD_int, shrD_int, andD_int, ltD_int, leD_int, gtD_int, geD_int, eqD_ap, neD_ap, isD_ap, isNotD_ap, isNon_none, isNon_int, isNon_bool, isNon_str, isNon_tup, isNon_lst, isInt_none, isInt_int, isInt_bool, isInt_str, isInt_tup, isInt_lst, isBool_none, isBool_int, isBool_bool, isBool_str, isBool_tup, isBool_lst, isStr_none, isStr_int, isStr_bool, isStr_str, isStr_tup, isStr_lst, isTup_none, isTup_int, isTup_bool, isTup_str, isTup_tup, isTup_lst, isLst_lst, Cnd_true, Cnd_false, Cnd_not, Cnd_dec, asB_bool, forall_const, true_implies, false_implies, implies_true, decide_true, decide_false, Classical.not_not, negD_int, notD_bool, onVal_val, onOwn_own, onDic_dic, onScr_scr, onWv_wv, onInt_int, onTup_tup, onLst_lst, onItems_lst, onItems_tup, frz1_own, frz1_val, frz1_un, ixD_lst, ixD_tup, ixL_int, optD_some, optI_some, absD_int, intD_int, intD_bool, lenD_lst, lenD_tup, lenD_str, tupleD_lst, tupleD_tup, listD_lst, listD_tup, min2D_int, max2D_int, sumD_ints, allD_bls, anyD_bls, slD_lst, slD_tup, slD_str, gNl_nil, gCs_cons, par2_two, seq1_lst, seq1_tup, rng1D_int, rng2D_int, gt_z, gt_s, sp_next_int, set_z, set_s, List.map_cons, List.map_nil, List.length_cons, List.length_nil, List.cons_append, List.nil_append, List.replicate, Nat.reduceAdd, Nat.reduceSub, Nat.zero_add, shaped_int, shaped_bool, shaped_none, shaped_listI, shaped_tupI, shaped_nilL, shaped_nilT, eqv_int, eqv_bool, eqv_str, eqv_none, eqv_list_nil, List.isEmpty_nil, List.isEmpty_cons, Bool.true_eq_false, Bool.false_eq_true, decide_eq_true_eq, and_self, true_and, and_true, not_dec, Bool.not_eq_true', decide_eq_false_iff_not, atI_0, atI_1, atI_2, ite_true, ite_false, if_true, if_false, reduceIte, Bool.not_true, Bool.not_false, not_true_eq_false, not_false_eq_true, List.set_cons_zero, List.set_cons_succ, dPar3, dRev, par3_three, sortedD_ints, revD_tup, two_nat, one_nat, three_nat, dCh3, dOwnC, dPutPar, putPar_two, dZip2, zip2D_lst, zip2D_tup, dPut, isBD_bl, isNotBD_bl, dNewO, dPutO, dSortedO, putKD_int, dPar3O, dParO2, par3O_two, parO2_one, minLD_lst, dKeysW, rdPairs_nil, rdPairs_cons, onPair_ii, revD_lst, spx_law_d, spx_common, spx_least_two, spx_all_two, spx_law_common_v1, spx_law_all, spx_unit_two, spx_size_of_two, spx_law_changed, spx_law_drawn_v2, spx_law_least, spx_half, spx_eighth, spx_size_of, spx_without_twos, spx_mark, spx_law_plain, spx_power_of, spx_law_power_v2, spx_law_turn_far, spx_law_turn_to])
local macro_rules | `(tactic| walk_at "dd") => `(tactic| (walk_at "d1"; repeat (with_reducible (refine then_intro ?_); walk_at "d1")))
def rd_law_prime_to_b1 : DTS :=
  (dSeq (dAsg (dOp addD (dOp addD (dOp mulD (dOp mulD (dOp ixD (dVar 0) (dC (.int 0))) (dVar 3)) (dVar 3)) (dOp mulD (dOp mulD (dOp ixD (dVar 0) (dC (.int 1))) (dVar 3)) (dVar 4))) (dOp mulD (dOp mulD (dOp ixD (dVar 0) (dC (.int 2))) (dVar 4)) (dVar 4))) (gNm 5)) (dCond (dTAnd (dT (dOp eqD (dB max2D (dCons (dB absD (dCons (dVar 3) dNil)) (dCons (dVar 4) dNil))) (dVar 2))) (dTAnd (dT (dOp gtD (dVar 5) (dC (.int 0)))) (dTAnd (dT (dOp eqD (dCall sp_law_common_v1 (dCons (dVar 3) (dCons (dVar 4) dNil))) (dC (.int 1)))) (dT (dOp eqD (dCall sp_law_common_v1 (dCons (dVar 5) (dCons (dVar 1) dNil))) (dC (.int 1))))))) (dRet (dCall sp_law_changed (dCons (dVar 0) (dCons (dCall sp_law_turn_to (dCons (dVar 3) (dCons (dVar 4) dNil))) dNil)))) dSkip))
def rd_law_prime_to_b2 : DTS :=
  (dFor (dRng1 (dCons (dOp addD (dVar 2) (dC (.int 1))) dNil)) (gNm 4) rd_law_prime_to_b1)
def rd_law_prime_to_b3 : DTS :=
  (dFor (dRng2 (dCons (dNeg (dVar 2)) (dCons (dOp addD (dVar 2) (dC (.int 1))) dNil))) (gNm 3) rd_law_prime_to_b2)
def rd_law_prime_to : DTS :=
  (dSeq (dFor (dRng2 (dCons (dC (.int 1)) (dCons (dC (.int 40)) dNil))) (gNm 2) rd_law_prime_to_b3) (dRet (dVar 0)))
def GoodXY (f : Form) (a x y : Int) : Prop := 0 < valF f x y ∧ Int.gcd x y = 1 ∧ Int.gcd (valF f x y) a = 1
def HasXY (f : Form) (a : Int) : Prop := ∃ x y : Int, x.natAbs ≤ 39 ∧ 0 ≤ y ∧ y ≤ 39 ∧ GoodXY f a x y
def sp_law_prime_to : Lay.Spec := fun ds R => match ds with
  | [.tuple [.int a, .int b, .int c], .int m] => (Bd3 1000 (a, b, c) ∧ HasXY (a, b, c) m) ∧ ∀ g : Form, Eqv (a, b, c) g → Int.gcd g.1 m = 1 → Bd3 10000000000000 g → R (formD g)
  | _ => False
theorem spx_law_prime_to {a b c m : Int} {R : D → Prop} : sp_law_prime_to [.tuple [.int a, .int b, .int c], .int m] R = ((Bd3 1000 (a, b, c) ∧ HasXY (a, b, c) m) ∧ ∀ g : Form, Eqv (a, b, c) g → Int.gcd g.1 m = 1 → Bd3 10000000000000 g → R (formD g)) := rfl
theorem act_bd {f : Form} {p q r s : Int} {n k : Nat} (h : Bd3 n f) (hp : p.natAbs ≤ k) (hq : q.natAbs ≤ k) (hr : r.natAbs ≤ k) (hs : s.natAbs ≤ k) : Bd3 (6 * (n * k * k)) (act f p q r s) := by
  obtain ⟨h1, h2, h3⟩ := h
  have t : ∀ {a u v : Int}, a.natAbs ≤ n → u.natAbs ≤ k → v.natAbs ≤ k → (a * u * v).natAbs ≤ n * k * k := fun {a u v} ha hu hv => by
    rw [Int.natAbs_mul, Int.natAbs_mul]
    exact Nat.mul_le_mul (Nat.mul_le_mul ha hu) hv
  refine ⟨?_, ?_, ?_⟩ <;> unfold act <;> simp only
  · have := t h1 hp hp
    have := t h2 hp hr
    have := t h3 hr hr
    omega
  · have e1 : 2 * f.1 * p * q = 2 * (f.1 * p * q) := by grind
    have e2 : f.2.1 * (p * s + q * r) = f.2.1 * p * s + f.2.1 * q * r := by grind
    have e3 : 2 * f.2.2 * r * s = 2 * (f.2.2 * r * s) := by grind
    have := t h1 hp hq
    have := t h2 hp hs
    have := t h2 hq hr
    have := t h3 hr hs
    rw [e1, e2, e3]
    omega
  · have := t h1 hq hq
    have := t h2 hq hs
    have := t h3 hs hs
    omega
/-- the search meets all with this size -/
theorem max_abs (x y : Int) (hy : 0 ≤ y) : (if y > (x.natAbs : Int) then y else (x.natAbs : Int)) = ((max x.natAbs y.natAbs : Nat) : Int) := by
  split <;> omega
theorem ok_law_prime_to : ∀ ds R, sp_law_prime_to ds R → rd_law_prime_to (fnE R) (startE 6 ds) := by
  intro ds R h
  unfold sp_law_prime_to at h
  split at h
  · rename_i a b c m
    obtain ⟨⟨hb, X, Y, hX, hY0, hY, hXY⟩, h⟩ := h
    have hb0 := hb
    obtain ⟨ab, bb, cb⟩ := hb
    have ab : a.natAbs ≤ 1000 := ab
    have bb : b.natAbs ≤ 1000 := bb
    have cb : c.natAbs ≤ 1000 := cb
    have hp62 : (1000 : Int) < 2 ^ 62 := by decide
    have hm62 : -(2 : Int) ^ 62 ≤ -1000 := by decide
    unfold rd_law_prime_to
    walk_at "dd"
    refine ⟨⟨by decide, by decide, by decide, by decide⟩, ?_⟩
    refine for_by (fun (s : Sl × Sl × Sl × Sl) => [.val (.tuple [.int a, .int b, .int c]), .val (.int m), s.1, s.2.1, s.2.2.1, s.2.2.2]) (fun i _ => ∀ x y : Int, 0 ≤ y → 0 < max x.natAbs y.natAbs → max x.natAbs y.natAbs ≤ i → ¬ GoodXY (a, b, c) m x y) (.un, .un, .un, .un) rfl (fun x y _ h1 h2 => absurd h1 (by omega)) ?_ ?_
    · rintro i d hd ⟨u2, u3, u4, u5⟩ hi bk
      obtain ⟨il, rfl⟩ := rangeD_get hd
      have il : i < 39 := il
      generalize hsz : (1 : Int) + (i : Int) = sz
      unfold rd_law_prime_to_b3
      walk_at "dd"
      refine ⟨⟨by omega, by omega, by omega, by omega⟩, ?_⟩
      refine for_by (fun (s : Sl × Sl × Sl) => [.val (.tuple [.int a, .int b, .int c]), .val (.int m), .val (.int sz), s.1, s.2.1, s.2.2]) (fun j _ => ∀ x y : Int, 0 ≤ y → max x.natAbs y.natAbs = i + 1 → x < -sz + (j : Int) → ¬ GoodXY (a, b, c) m x y) (u3, u4, u5) rfl (fun x y _ h1 h2 => absurd h2 (by omega)) ?_ ?_
      · rintro j d2 hd2 ⟨v3, v4, v5⟩ hj bk2
        obtain ⟨jl, rfl⟩ := rangeD_get hd2
        generalize hx : -sz + (j : Int) = x
        have xb : x.natAbs ≤ 39 := by omega
        unfold rd_law_prime_to_b2
        walk_at "dd"
        refine ⟨by omega, ?_⟩
        refine for_by (fun (s : Sl × Sl) => [.val (.tuple [.int a, .int b, .int c]), .val (.int m), .val (.int sz), .val (.int x), s.1, s.2]) (fun k _ => ∀ y : Int, 0 ≤ y → max x.natAbs y.natAbs = i + 1 → y < (k : Int) → ¬ GoodXY (a, b, c) m x y) (v4, v5) rfl (fun y h0 _ h2 => absurd h2 (by omega)) ?_ ?_
        · rintro k d3 hd3 ⟨w4, w5⟩ hk bk3
          obtain ⟨kl, rfl⟩ := rangeD_get hd3
          generalize hy : (0 : Int) + (k : Int) = y
          have y0 : 0 ≤ y := by omega
          have yb : y ≤ 39 := by omega
          have x6 : x.natAbs < 2 ^ 6 := by omega
          have y6 : y.natAbs < 2 ^ 6 := by omega
          have a10 : a.natAbs < 2 ^ 10 := by omega
          have b10 : b.natAbs < 2 ^ 10 := by omega
          have c10 : c.natAbs < 2 ^ 10 := by omega
          have n1 := bits_mul a10 x6
          have n2 := bits_mul b10 x6
          have n3 := bits_mul c10 y6
          have ev : a * x * x + b * x * y + c * y * y = valF (a, b, c) x y := rfl
          unfold rd_law_prime_to_b1
          walk_at "dd"
          rw [ev]
          refine ⟨mulOk a10 x6 (by decide), mulOk n1 x6 (by decide), mulOk b10 x6 (by decide), mulOk n2 y6 (by decide), mulOk c10 y6 (by decide), mulOk n3 y6 (by decide), ?_⟩
          refine then_intro ?_
          walk_at "dd"
          rw [max_abs x y y0]
          have next : ¬ GoodXY (a, b, c) m x y ∨ max x.natAbs y.natAbs ≠ i + 1 → ∃ a' : Sl × Sl, [Sl.val (.tuple [.int a, .int b, .int c]), .val (.int m), .val (.int sz), .val (.int x), .val (.int y), .val (.int (valF (a, b, c) x y))] = [.val (.tuple [.int a, .int b, .int c]), .val (.int m), .val (.int sz), .val (.int x), a'.1, a'.2] ∧ ∀ y : Int, 0 ≤ y → max x.natAbs y.natAbs = i + 1 → y < ((k + 1 : Nat) : Int) → ¬ GoodXY (a, b, c) m x y := fun hn => by
            refine ⟨(_, _), rfl, fun y' h0 h1 h2 => ?_⟩
            rcases (show y' < (k : Int) ∨ y' = y by omega) with q | rfl
            · exact hk y' h0 h1 q
            · exact hn.resolve_right fun z => z h1
          refine ⟨fun z1 => ⟨fun z2 => ⟨fun z3 => ⟨fun z4 => ?_, fun z4 => ?_⟩, fun z3 => ?_⟩, fun z2 => ?_⟩, fun z1 => ?_⟩
          · have hg : Int.gcd x y = 1 := by omega
            refine ⟨⟨y0, by omega, by omega, hg⟩, fun q s hdet qb sb => ?_⟩
            have p30 : 20000 < 2 ^ 30 := by decide
            refine ⟨⟨30, by decide, ⟨by show a.natAbs < _; omega, by show b.natAbs < _; omega, by show c.natAbs < _; omega⟩, by omega, by omega, by omega, by omega⟩, ?_⟩
            refine h _ ⟨x, q, y, s, hdet, rfl⟩ ?_ ?_
            · show Int.gcd (valF (a, b, c) x y) m = 1
              omega
            · obtain ⟨e1, e2, e3⟩ := act_bd (k := 20000) hb0 (show x.natAbs ≤ 20000 by omega) qb (show y.natAbs ≤ 20000 by omega) (show s.natAbs ≤ 20000 by omega)
              exact ⟨by omega, by omega, by omega⟩
          · exact next (.inl fun g => z4 (by have := g.2.2; omega))
          · exact next (.inl fun g => z3 (by have := g.2.1; omega))
          · exact next (.inl fun g => z2 g.1)
          · exact next (.inr fun e => z1 (by rw [e]; omega))
        · rintro ⟨w4, w5⟩ hk
          rw [rangeD_length] at hk
          refine ⟨(_, _, _), rfl, fun x' y' h0 h1 h2 => ?_⟩
          rcases (show x' < -sz + (j : Int) ∨ x' = x by omega) with q | rfl
          · exact hj x' y' h0 h1 q
          · exact hk y' h0 h1 (by omega)
      · rintro ⟨v3, v4, v5⟩ hj
        rw [rangeD_length] at hj
        refine ⟨(_, _, _, _), rfl, fun x' y' h0 h1 h2 => ?_⟩
        rcases (show max x'.natAbs y'.natAbs ≤ i ∨ max x'.natAbs y'.natAbs = i + 1 by omega) with q | q
        · exact hi x' y' h0 h1 q
        · exact hj x' y' h0 q (by omega)
    · rintro ⟨u2, u3, u4, u5⟩ hi
      exfalso
      rw [rangeD_length] at hi
      refine hi X Y hY0 ?_ ?_ hXY
      · have := hXY.2.1
        rcases (show 0 < max X.natAbs Y.natAbs ∨ (X = 0 ∧ Y = 0) by omega) with z | ⟨rfl, rfl⟩
        · exact z
        · exact absurd this (by decide)
      · show _ ≤ 39
        omega
  · exact h.elim
local macro_rules | `(tactic| walk_at "d1") => `(tactic| try simp only [dSeq, dSkip, dPass, dRet, dRetN, dDrop, dCond, dAsg, gNm, gTp, dOwn, dOwnL, dPar, dAug, dApp, dExt, dFrz, dFor, dLc, dBreak, dCont, dVar, dC, dOp, dT, dIsi, dNeg, dNot, dTNot, dAnd, dOr, dTAnd, dTOr, dIf, dCh, dNil, dCons, dTup, dLst, dIxO, dB, dCall, dCallW, dItems, dRng1, dRng2, dYes, fnE, startE, startW, startS, dLenO, dLenS, dIxS, dSl, dPt, dNo, wipeE, addD_int, addD_str, addD_tup, addD_lst, subD_int, mulD_int, mulD_tup, mulD_lst, fdivD_int, modD_int, powD_int, shlD_int, shrD_int, andD_int, ltD_int, leD_int, gtD_int, geD_int, eqD_ap, neD_ap, isD_ap, isNotD_ap, isNon_none, isNon_int, isNon_bool, isNon_str, isNon_tup, isNon_lst, isInt_none, isInt_int, isInt_bool, isInt_str, isInt_tup, isInt_lst, isBool_none, isBool_int, isBool_bool, isBool_str, isBool_tup, isBool_lst, isStr_none, isStr_int, isStr_bool, isStr_str, isStr_tup, isStr_lst, isTup_none, isTup_int, isTup_bool, isTup_str, isTup_tup, isTup_lst, isLst_lst, Cnd_true, Cnd_false, Cnd_not, Cnd_dec, asB_bool, forall_const, true_implies, false_implies, implies_true, decide_true, decide_false, Classical.not_not, negD_int, notD_bool, onVal_val, onOwn_own, onDic_dic, onScr_scr, onWv_wv, onInt_int, onTup_tup, onLst_lst, onItems_lst, onItems_tup, frz1_own, frz1_val, frz1_un, ixD_lst, ixD_tup, ixL_int, optD_some, optI_some, absD_int, intD_int, intD_bool, lenD_lst, lenD_tup, lenD_str, tupleD_lst, tupleD_tup, listD_lst, listD_tup, min2D_int, max2D_int, sumD_ints, allD_bls, anyD_bls, slD_lst, slD_tup, slD_str, gNl_nil, gCs_cons, par2_two, seq1_lst, seq1_tup, rng1D_int, rng2D_int, gt_z, gt_s, sp_next_int, set_z, set_s, List.map_cons, List.map_nil, List.length_cons, List.length_nil, List.cons_append, List.nil_append, List.replicate, Nat.reduceAdd, Nat.reduceSub, Nat.zero_add, shaped_int, shaped_bool, shaped_none, shaped_listI, shaped_tupI, shaped_nilL, shaped_nilT, eqv_int, eqv_bool, eqv_str, eqv_none, eqv_list_nil, List.isEmpty_nil, List.isEmpty_cons, Bool.true_eq_false, Bool.false_eq_true, decide_eq_true_eq, and_self, true_and, and_true, not_dec, Bool.not_eq_true', decide_eq_false_iff_not, atI_0, atI_1, atI_2, ite_true, ite_false, if_true, if_false, reduceIte, Bool.not_true, Bool.not_false, not_true_eq_false, not_false_eq_true, List.set_cons_zero, List.set_cons_succ, dPar3, dRev, par3_three, sortedD_ints, revD_tup, two_nat, one_nat, three_nat, dCh3, dOwnC, dPutPar, putPar_two, dZip2, zip2D_lst, zip2D_tup, dPut, isBD_bl, isNotBD_bl, dNewO, dPutO, dSortedO, putKD_int, dPar3O, dParO2, par3O_two, parO2_one, minLD_lst, dKeysW, rdPairs_nil, rdPairs_cons, onPair_ii, revD_lst])
local macro_rules | `(tactic| walk_at "dd") => `(tactic| (walk_at "d1"; repeat (with_reducible (refine then_intro ?_); walk_at "d1")))
def rd_split_b1 : DTS :=
  (dSeq (dAsg (dOp fdivD (dVar 6) (dVar 7)) (gNm 8)) (dSeq (dPar 6 7 (dCons (dVar 7) (dCons (dOp subD (dVar 6) (dOp mulD (dVar 8) (dVar 7))) dNil))) (dSeq (dPar 2 4 (dCons (dVar 4) (dCons (dOp subD (dVar 2) (dOp mulD (dVar 8) (dVar 4))) dNil))) (dPar 3 5 (dCons (dVar 5) (dCons (dOp subD (dVar 3) (dOp mulD (dVar 8) (dVar 5))) dNil))))))
def rd_split : DTS :=
  (dSeq (dAsg (dTup (dCons (dC (.int 1)) (dCons (dC (.int 0)) (dCons (dC (.int 0)) (dCons (dC (.int 1)) dNil))))) (gTp 4 (gCs (gNm 2) (gCs (gNm 3) (gCs (gNm 4) (gCs (gNm 5) gNl)))))) (dSeq (dPar 6 7 (dCons (dVar 0) (dCons (dVar 1) dNil))) (dSeq (dWhile (dT (dOp neD (dVar 7) (dC (.int 0)))) rd_split_b1) (dRet (dIf (dT (dOp geD (dVar 6) (dC (.int 0)))) (dTup (dCons (dVar 6) (dCons (dVar 2) (dCons (dVar 3) dNil)))) (dTup (dCons (dNeg (dVar 6)) (dCons (dNeg (dVar 2)) (dCons (dNeg (dVar 3)) dNil)))))))))
def sp_split : Lay.Spec := fun ds R => match ds with
  | [.int a, .int b] => ∃ n : Nat, n ≤ 4000 ∧ a.natAbs < 2 ^ n ∧ b.natAbs < 2 ^ n ∧ ∀ x y : Int, a * x + b * y = (Int.gcd a b : Nat) → x.natAbs < 2 ^ (n + n + 2) → y.natAbs < 2 ^ (n + n + 2) → R (.tuple [.int (Int.gcd a b : Nat), .int x, .int y])
  | _ => False
structure SplitI (M : Nat) (a b : Int) (c d x y z w : Int) : Prop where
  hc : c = a * x + b * y
  hd : d = a * z + b * w
  det : x * w - y * z = 1 ∨ x * w - y * z = -1
  g : Int.gcd c d = Int.gcd a b
  bd : d.natAbs ≤ b.natAbs
  bx : x.natAbs ≤ M * (b.natAbs - d.natAbs + 1) + 1
  by_ : y.natAbs ≤ M * (b.natAbs - d.natAbs + 1) + 1
  bz : z.natAbs ≤ M * (b.natAbs - d.natAbs + 1) + 1
  bw : w.natAbs ≤ M * (b.natAbs - d.natAbs + 1) + 1
theorem split_bits {k n m : Nat} {x : Int} (hb : n < 2 ^ k) (h : x.natAbs ≤ 2 ^ k * (n - m + 1) + 1) : x.natAbs < 2 ^ (k + k + 2) := by
  have h1 : n - m + 1 ≤ 2 ^ k := by omega
  have h2 : 2 ^ k * (n - m + 1) ≤ 2 ^ k * 2 ^ k := Nat.mul_le_mul (Nat.le_refl _) h1
  have h3 : (2 : Nat) ^ (k + k + 2) = 2 ^ k * 2 ^ k * 4 := by rw [Nat.pow_add, Nat.pow_add]
  have h4 : 0 < (2 : Nat) ^ k * 2 ^ k := Nat.mul_pos (Nat.pow_pos (by decide)) (Nat.pow_pos (by decide))
  omega
theorem split_next {a d d' w w' : Int} (hd : d ≠ 0) (hl : d'.natAbs < d.natAbs) (e : d * w' - d' * w = a ∨ d * w' - d' * w = -a) : w'.natAbs ≤ a.natAbs + w.natAbs := by
  have h1 : (d * w').natAbs ≤ a.natAbs + (d' * w).natAbs := by omega
  rw [Int.natAbs_mul, Int.natAbs_mul] at h1
  have hp : 0 < d.natAbs := by omega
  have h2 : d'.natAbs * w.natAbs ≤ d.natAbs * w.natAbs := Nat.mul_le_mul (by omega) (Nat.le_refl _)
  have h3 : a.natAbs ≤ d.natAbs * a.natAbs := Nat.le_mul_of_pos_left _ hp
  have h4 : d.natAbs * w'.natAbs ≤ d.natAbs * (a.natAbs + w.natAbs) := by rw [Nat.mul_add]; omega
  exact Nat.le_of_mul_le_mul_left h4 hp
theorem split_grow {M n m m' v k : Nat} {w' : Nat} (ha : k < M) (hm : m' < m) (hn : m ≤ n) (h : w' ≤ k + v) (hv : v ≤ M * (n - m + 1) + 1) : w' ≤ M * (n - m' + 1) + 1 := by
  have h1 : M * (n - m + 1 + 1) = M * (n - m + 1) + M := Nat.mul_succ _ _
  have h2 : M * (n - m + 1 + 1) ≤ M * (n - m' + 1) := Nat.mul_le_mul (Nat.le_refl _) (by omega)
  omega
theorem split_keep {M n m m' v : Nat} (hm : m' < m) (hv : v ≤ M * (n - m + 1) + 1) : v ≤ M * (n - m' + 1) + 1 := by
  have h2 : M * (n - m + 1) ≤ M * (n - m' + 1) := Nat.mul_le_mul (Nat.le_refl _) (by omega)
  omega
theorem SplitI.step {M : Nat} {a b c d x y z w q : Int} (ha : a.natAbs < M) (hb : b.natAbs < M) (h : SplitI M a b c d x y z w) (hd : d ≠ 0) (hq : q = c.fdiv d) :
    SplitI M a b d (c - q * d) z w (x - q * z) (y - q * w) ∧ (c - q * d).natAbs < d.natAbs := by
  have e0 : c - q * d = c.fmod d := by rw [Int.fmod_def, hq, Int.mul_comm]
  have hl : (c - q * d).natAbs < d.natAbs := by rw [e0]; exact natAbs_fmod_lt c hd
  obtain ⟨hc, hdd, det, g, bd, bx, by_, bz, bw⟩ := h
  refine ⟨⟨hdd, by rw [hc, hdd]; grind, ?_, ?_, by omega, split_keep hl bz, split_keep hl bw, ?_, ?_⟩, hl⟩
  · rcases det with det | det
    · right
      have : z * (y - q * w) - w * (x - q * z) = -(x * w - y * z) := by grind
      omega
    · left
      have : z * (y - q * w) - w * (x - q * z) = -(x * w - y * z) := by grind
      omega
  · rw [Int.gcd_sub_mul_right_right, Int.gcd_comm]
    exact g
  · refine split_grow hb hl bd (split_next (a := b) (w := z) hd hl ?_) bz
    have e1 : d * (x - q * z) - (c - q * d) * z = b * (x * w - y * z) := by rw [hc, hdd]; grind
    rw [e1]
    rcases det with det | det <;> rw [det] <;> simp
  · refine split_grow ha hl bd (split_next (a := a) (w := w) hd hl ?_) bw
    have e1 : d * (y - q * w) - (c - q * d) * w = -(a * (x * w - y * z)) := by rw [hc, hdd]; grind
    rw [e1]
    rcases det with det | det <;> rw [det] <;> simp
theorem SplitI.start (M : Nat) (a b : Int) : SplitI M a b a b 1 0 0 1 := by
  refine ⟨by omega, by omega, .inl (by decide), rfl, Nat.le_refl _, ?_, ?_, ?_, ?_⟩
  · show 1 ≤ _; exact Nat.le_add_left _ _
  · exact Nat.zero_le _
  · exact Nat.zero_le _
  · show 1 ≤ _; exact Nat.le_add_left _ _
theorem ok_split : ∀ ds R, sp_split ds R → rd_split (fnE R) (startE 9 ds) := by
  intro ds R h
  unfold sp_split at h
  split at h
  · rename_i a b
    obtain ⟨n, hn, ha, hb, k⟩ := h
    unfold rd_split
    walk_at "dd"
    refine while_by (fun (s : (Int × Int × Int × Int × Int × Int) × Sl) => [.val (.int a), .val (.int b), .val (.int s.1.2.2.1), .val (.int s.1.2.2.2.1), .val (.int s.1.2.2.2.2.1), .val (.int s.1.2.2.2.2.2), .val (.int s.1.1), .val (.int s.1.2.1), s.2])
      (fun s => SplitI (2 ^ n) a b s.1.1 s.1.2.1 s.1.2.2.1 s.1.2.2.2.1 s.1.2.2.2.2.1 s.1.2.2.2.2.2) (fun s => s.1.2.1.natAbs) ((a, b, 1, 0, 0, 1), .un) rfl (SplitI.start _ a b) ?_
    rintro ⟨⟨c, d, x, y, z, w⟩, s⟩ h bk
    simp only at h
    have bx := split_bits hb h.bx
    have by_ := split_bits hb h.by_
    have bz := split_bits hb h.bz
    have bw := split_bits hb h.bw
    walk_at "dd"
    refine And.symm ⟨fun hd => ?_, fun hd => ?_⟩
    · unfold rd_split_b1
      walk_at "dd"
      obtain ⟨h', hl⟩ := SplitI.step ha hb h hd rfl
      have bd : d.natAbs < 2 ^ n := Nat.lt_of_le_of_lt h.bd hb
      have bc : c.natAbs < 2 ^ (n + (n + n + 2) + (n + (n + n + 2)) + 1) := by
        rw [h.hc]
        exact bits_add (bits_mul ha bx) (bits_mul hb by_)
      have bq := bits_le (Int.natAbs_fdiv_le_natAbs c d) bc
      refine ⟨divOk hd bd (by omega), mulOk bq bd (by omega), mulOk bq bz (by omega), mulOk bq bw (by omega), ?_⟩
      exact ⟨((d, c - c.fdiv d * d, z, w, x - c.fdiv d * z, y - c.fdiv d * w), .val (.int (c.fdiv d))), rfl, h', hl⟩
    · subst hd
      have hg := h.g
      rw [Int.gcd_zero_right] at hg
      walk_at "dd"
      refine ⟨fun hc => ?_, fun hc => ?_⟩
      · have e : c = (Int.gcd a b : Nat) := by omega
        rw [e]
        exact k x y (by rw [← h.hc, e]) bx by_
      · have e : -c = (Int.gcd a b : Nat) := by omega
        rw [e]
        exact k (-x) (-y) (by rw [← e, h.hc]; grind) (by rw [Int.natAbs_neg]; exact bx) (by rw [Int.natAbs_neg]; exact by_)
  · exact h.elim
local macro_rules | `(tactic| walk_at "d1") => `(tactic| try simp only [dSeq, dSkip, dPass, dRet, dRetN, dDrop, dCond, dAsg, gNm, gTp, dOwn, dOwnL, dPar, dAug, dApp, dExt, dFrz, dFor, dLc, dBreak, dCont, dVar, dC, dOp, dT, dIsi, dNeg, dNot, dTNot, dAnd, dOr, dTAnd, dTOr, dIf, dCh, dNil, dCons, dTup, dLst, dIxO, dB, dCall, dCallW, dItems, dRng1, dRng2, dYes, fnE, startE, startW, startS, dLenO, dLenS, dIxS, dSl, dPt, dNo, wipeE, addD_int, addD_str, addD_tup, addD_lst, subD_int, mulD_int, mulD_tup, mulD_lst, fdivD_int, modD_int, powD_int, shlD_int, shrD_int, andD_int, ltD_int, leD_int, gtD_int, geD_int, eqD_ap, neD_ap, isD_ap, isNotD_ap, isNon_none, isNon_int, isNon_bool, isNon_str, isNon_tup, isNon_lst, isInt_none, isInt_int, isInt_bool, isInt_str, isInt_tup, isInt_lst, isBool_none, isBool_int, isBool_bool, isBool_str, isBool_tup, isBool_lst, isStr_none, isStr_int, isStr_bool, isStr_str, isStr_tup, isStr_lst, isTup_none, isTup_int, isTup_bool, isTup_str, isTup_tup, isTup_lst, isLst_lst, Cnd_true, Cnd_false, Cnd_not, Cnd_dec, asB_bool, forall_const, true_implies, false_implies, implies_true, decide_true, decide_false, Classical.not_not, negD_int, notD_bool, onVal_val, onOwn_own, onDic_dic, onScr_scr, onWv_wv, onInt_int, onTup_tup, onLst_lst, onItems_lst, onItems_tup, frz1_own, frz1_val, frz1_un, ixD_lst, ixD_tup, ixL_int, optD_some, optI_some, absD_int, intD_int, intD_bool, lenD_lst, lenD_tup, lenD_str, tupleD_lst, tupleD_tup, listD_lst, listD_tup, min2D_int, max2D_int, sumD_ints, allD_bls, anyD_bls, slD_lst, slD_tup, slD_str, gNl_nil, gCs_cons, par2_two, seq1_lst, seq1_tup, rng1D_int, rng2D_int, gt_z, gt_s, sp_next_int, set_z, set_s, List.map_cons, List.map_nil, List.length_cons, List.length_nil, List.cons_append, List.nil_append, List.replicate, Nat.reduceAdd, Nat.reduceSub, Nat.zero_add, shaped_int, shaped_bool, shaped_none, shaped_listI, shaped_tupI, shaped_nilL, shaped_nilT, eqv_int, eqv_bool, eqv_str, eqv_none, eqv_list_nil, List.isEmpty_nil, List.isEmpty_cons, Bool.true_eq_false, Bool.false_eq_true, decide_eq_true_eq, and_self, true_and, and_true, not_dec, Bool.not_eq_true', decide_eq_false_iff_not, atI_0, atI_1, atI_2, ite_true, ite_false, if_true, if_false, reduceIte, Bool.not_true, Bool.not_false, not_true_eq_false, not_false_eq_true, List.set_cons_zero, List.set_cons_succ, dPar3, dRev, par3_three, sortedD_ints, revD_tup, two_nat, one_nat, three_nat, dCh3, dOwnC, dPutPar, putPar_two, dZip2, zip2D_lst, zip2D_tup, dPut, isBD_bl, isNotBD_bl, dNewO, dPutO, dSortedO, putKD_int, dPar3O, dParO2, par3O_two, parO2_one, minLD_lst, dKeysW, rdPairs_nil, rdPairs_cons, onPair_ii, revD_lst, spx_law_d, spx_common, spx_least_two, spx_all_two, spx_law_common_v1, spx_law_all, spx_unit_two, spx_size_of_two, spx_law_changed, spx_law_drawn_v2, spx_law_least, spx_half, spx_eighth, spx_size_of, spx_without_twos, spx_mark, spx_law_plain, spx_power_of, spx_law_power_v2])
local macro_rules | `(tactic| walk_at "dd") => `(tactic| (walk_at "d1"; repeat (with_reducible (refine then_intro ?_); walk_at "d1")))
def rd_joined_two : DTS :=
  (dSeq (dAsg (dTup (dCons (dVar 0) (dCons (dVar 1) dNil))) (gTp 2 (gCs (gTp 3 (gCs (gNm 2) (gCs (gNm 3) (gCs (gNm 4) gNl)))) (gCs (gTp 3 (gCs (gNm 5) (gCs (gNm 6) (gCs (gNm 7) gNl)))) gNl)))) (dSeq (dAsg (dCall sp_size_of_two (dCons (dVar 0) dNil)) (gNm 8)) (dSeq (dAsg (dOp fdivD (dOp addD (dVar 3) (dVar 6)) (dC (.int 2))) (gNm 9)) (dSeq (dAsg (dCall sp_split (dCons (dVar 2) (dCons (dVar 5) dNil))) (gTp 3 (gCs (gNm 10) (gCs (gNm 11) (gCs (gNm 7) gNl))))) (dSeq (dAsg (dCall sp_split (dCons (dVar 10) (dCons (dVar 9) dNil))) (gTp 3 (gCs (gNm 12) (gCs (gNm 13) (gCs (gNm 14) gNl))))) (dSeq (dAsg (dOp fdivD (dVar 5) (dVar 12)) (gNm 15)) (dSeq (dAsg (dOp fdivD (dVar 2) (dVar 12)) (gNm 16)) (dSeq (dAsg (dOp modD (dOp subD (dOp mulD (dOp mulD (dVar 13) (dVar 11)) (dOp fdivD (dOp subD (dVar 6) (dVar 3)) (dC (.int 2)))) (dOp mulD (dVar 14) (dVar 4))) (dVar 15)) (gNm 17)) (dSeq (dAsg (dOp addD (dVar 3) (dOp mulD (dOp mulD (dC (.int 2)) (dVar 16)) (dVar 17))) (gNm 18)) (dSeq (dAsg (dOp mulD (dVar 16) (dVar 15)) (gNm 19)) (dRet (dCall sp_least_two (dCons (dTup (dCons (dVar 19) (dCons (dVar 18) (dCons (dOp fdivD (dOp subD (dOp mulD (dVar 18) (dVar 18)) (dVar 8)) (dOp mulD (dC (.int 4)) (dVar 19))) dNil)))) dNil)))))))))))))
def sp_joined_two : Lay.Spec := fun ds R => match ds with
  | [.tuple [.int a, .int b, .int c], .tuple [.int e, .int h, .int k]] => (0 < a ∧ 0 < e ∧ disc (a, b, c) < 0 ∧ disc (a, b, c) = disc (e, h, k) ∧ PrimF (a, b, c) ∧ ∃ K : Nat, K ≤ 100 ∧ SmF K (a, b, c) ∧ SmF K (e, h, k)) ∧ ∀ F, JoinS (disc (a, b, c)) (a, b, c) (e, h, k) F → R (formD F)
  | _ => False
theorem spx_joined_two {a b c e h k : Int} {R : D → Prop} : sp_joined_two [.tuple [.int a, .int b, .int c], .tuple [.int e, .int h, .int k]] R = ((0 < a ∧ 0 < e ∧ disc (a, b, c) < 0 ∧ disc (a, b, c) = disc (e, h, k) ∧ PrimF (a, b, c) ∧ ∃ K : Nat, K ≤ 100 ∧ SmF K (a, b, c) ∧ SmF K (e, h, k)) ∧ ∀ F, JoinS (disc (a, b, c)) (a, b, c) (e, h, k) F → R (formD F)) := rfl
theorem par_even {b h x : Int} (e : b * b - h * h = 4 * x) : (b + h) % 2 = 0 := by
  rcases (show b % 2 = 0 ∨ b % 2 = 1 by omega) with z1 | z1 <;> rcases (show h % 2 = 0 ∨ h % 2 = 1 by omega) with z2 | z2
  · omega
  · exfalso
    obtain ⟨u, rfl⟩ : ∃ u, b = 2 * u := ⟨b / 2, by omega⟩
    obtain ⟨v, rfl⟩ : ∃ v, h = 2 * v + 1 := ⟨h / 2, by omega⟩
    have : 2 * u * (2 * u) - (2 * v + 1) * (2 * v + 1) = 4 * (u * u - v * v - v) - 1 := by grind
    omega
  · exfalso
    obtain ⟨u, rfl⟩ : ∃ u, b = 2 * u + 1 := ⟨b / 2, by omega⟩
    obtain ⟨v, rfl⟩ : ∃ v, h = 2 * v := ⟨h / 2, by omega⟩
    have : (2 * u + 1) * (2 * u + 1) - 2 * v * (2 * v) = 4 * (u * u + u - v * v) + 1 := by grind
    omega
  · omega
theorem ok_joined_two : ∀ ds R, sp_joined_two ds R → rd_joined_two (fnE R) (startE 20 ds) := by
  intro ds R H
  unfold sp_joined_two at H
  split at H
  · rename_i a b c e h k
    obtain ⟨⟨a0, e0, hd, heq, pf, K, hK, ⟨ab, bb, cb⟩, eb, hb, kb⟩, H⟩ := H
    have ab : a.natAbs < 2 ^ K := ab
    have bb : b.natAbs < 2 ^ K := bb
    have cb : c.natAbs < 2 ^ K := cb
    have eb : e.natAbs < 2 ^ K := eb
    have hb : h.natAbs < 2 ^ K := hb
    have kb : k.natAbs < 2 ^ K := kb
    have par : (b + h) % 2 = 0 := by
      refine par_even (x := a * c - e * k) ?_
      have : b * b - 4 * a * c = h * h - 4 * e * k := heq
      have : 4 * a * c = 4 * (a * c) := Int.mul_assoc ..
      have : 4 * e * k = 4 * (e * k) := Int.mul_assoc ..
      omega
    obtain ⟨hf, hhf⟩ : ∃ hf, b + h = 2 * hf := ⟨(b + h) / 2, by omega⟩
    obtain ⟨dl, hdl⟩ : ∃ dl, h - b = 2 * dl := ⟨(h - b) / 2, by omega⟩
    have f1 : (b + h).fdiv 2 = hf := by rw [fdiv_pos _ (by decide)]; omega
    have f2 : (h - b).fdiv 2 = dl := by rw [fdiv_pos _ (by decide)]; omega
    have hfb : hf.natAbs < 2 ^ K := by omega
    have dlb : dl.natAbs < 2 ^ K := by omega
    unfold rd_joined_two
    walk_at "dd"
    refine ⟨⟨K, by omega, ab, bb, cb⟩, ?_⟩
    refine then_intro ?_
    walk_at "dd"
    rw [f1]
    refine ⟨divOk (by decide) (n := 2) (by decide) (by decide), K, by omega, ab, eb, fun x z hxz xb zb => ?_⟩
    have m0 : 0 < Int.gcd a e := Int.gcd_pos_of_ne_zero_left _ (by omega)
    have mb : ((Int.gcd a e : Nat) : Int).natAbs < 2 ^ K := by
      rw [Int.natAbs_natCast]
      have := Nat.gcd_le_left e.natAbs (show 0 < a.natAbs by omega)
      show Nat.gcd _ _ < _
      omega
    have ma : ((Int.gcd a e : Nat) : Int) ∣ a := Int.gcd_dvd_left ..
    have me : ((Int.gcd a e : Nat) : Int) ∣ e := Int.gcd_dvd_right ..
    generalize Int.gcd a e = m at *
    walk_at "dd"
    refine ⟨K, by omega, mb, hfb, fun y w hyw yb wb => ?_⟩
    have n0 : 0 < Int.gcd (m : Int) hf := Int.gcd_pos_of_ne_zero_left _ (by omega)
    have nm : ((Int.gcd (m : Int) hf : Nat) : Int) ∣ m := Int.gcd_dvd_left ..
    have nh : ((Int.gcd (m : Int) hf : Nat) : Int) ∣ hf := Int.gcd_dvd_right ..
    have nb : ((Int.gcd (m : Int) hf : Nat) : Int).natAbs < 2 ^ K := by
      have := Int.natAbs_dvd_natAbs.mpr nm
      have := Nat.le_of_dvd (by omega) this
      omega
    generalize Int.gcd (m : Int) hf = n' at *
    have np : (0 : Int) < (n' : Int) := by omega
    generalize (n' : Int) = n at *
    obtain ⟨a1, ha1⟩ := Int.dvd_trans nm ma
    obtain ⟨e1, he1⟩ := Int.dvd_trans nm me
    obtain ⟨h1, hh1⟩ := nh
    have a1p : 0 < a1 := by
      rcases (show 0 < a1 ∨ a1 ≤ 0 by omega) with z | z
      · exact z
      · have := Int.mul_nonpos_of_nonneg_of_nonpos (show 0 ≤ n by omega) z
        omega
    have e1p : 0 < e1 := by
      rcases (show 0 < e1 ∨ e1 ≤ 0 by omega) with z | z
      · exact z
      · have := Int.mul_nonpos_of_nonneg_of_nonpos (show 0 ≤ n by omega) z
        omega
    have a1b : a1.natAbs < 2 ^ K := by
      have : a.natAbs = n.natAbs * a1.natAbs := by rw [ha1, Int.natAbs_mul]
      have := Nat.le_mul_of_pos_left a1.natAbs (show 0 < n.natAbs by omega)
      omega
    have e1b : e1.natAbs < 2 ^ K := by
      have : e.natAbs = n.natAbs * e1.natAbs := by rw [he1, Int.natAbs_mul]
      have := Nat.le_mul_of_pos_left e1.natAbs (show 0 < n.natAbs by omega)
      omega
    have d1 : e.fdiv n = e1 := by rw [he1]; exact Int.mul_fdiv_cancel_left _ (by omega)
    have d2 : a.fdiv n = a1 := by rw [ha1]; exact Int.mul_fdiv_cancel_left _ (by omega)
    have q1 := bits_mul yb xb
    have q2 := bits_mul q1 dlb
    have q3 := bits_mul wb cb
    walk_at "dd"
    rw [d1]
    refine ⟨divOk (by omega) nb (by omega), ?_⟩
    refine then_intro ?_
    walk_at "dd"
    rw [d2]
    refine ⟨divOk (by omega) nb (by omega), ?_⟩
    refine then_intro ?_
    walk_at "dd"
    rw [f2, fmod_pos _ e1p]
    have r0 := Int.emod_nonneg (y * x * dl - w * c) (show e1 ≠ 0 by omega)
    have r1 := Int.emod_lt_of_pos (y * x * dl - w * c) e1p
    have rq : (y * x * dl - w * c) % e1 = y * x * dl - w * c - e1 * ((y * x * dl - w * c) / e1) := by
      have := Int.mul_ediv_add_emod (y * x * dl - w * c) e1
      omega
    generalize (y * x * dl - w * c) / e1 = q at *
    obtain ⟨u, v, J⟩ := joined_jd (f := (a, b, c)) (g := (e, h, k)) (n := n) (a := a1) (e := e1) (h := h1) (m := (m : Int)) (x := x) (z := z) (y := y) (w := w) (q := q) (C := ((b + 2 * a1 * (y * x * dl - w * c - e1 * q)) * (b + 2 * a1 * (y * x * dl - w * c - e1 * q)) - disc (a, b, c)) / (4 * (a1 * e1))) heq (by omega) ha1 he1 (by show b + h = _; rw [← hh1]; omega) (dl := dl) hdl hxz (by rw [← hh1]; exact hyw)
    rw [show (a, b, c).2.2 = c from rfl] at J
    rw [show (a, b, c).2.1 = b from rfl] at J
    rw [← rq] at J
    generalize (y * x * dl - w * c) % e1 = by' at *
    have byb : by'.natAbs < 2 ^ K := by omega
    have q4 : (2 * a1).natAbs < 2 ^ (K + 1) := by rw [Nat.pow_succ]; omega
    have q5 := bits_mul q4 byb
    refine ⟨mulOk yb xb (by omega), divOk (by decide) (n := 2) (by decide) (by decide), mulOk q1 dlb (by omega), mulOk wb cb (by omega), by omega, ?_⟩
    refine then_intro ?_
    walk_at "dd"
    have q6 : (b + 2 * a1 * by').natAbs < 2 ^ (3 * K + 2) := by
      have := bits_add bb q5
      rwa [show K + (K + 1 + K) + 1 = 3 * K + 2 by omega] at this
    have hB : b + 2 * a1 * by' = b + 2 * a1 * by' := rfl
    have wp : 0 < a1 * e1 := Int.mul_pos a1p e1p
    have wb' := bits_mul a1b e1b
    refine ⟨mulOk (x := 2) (n := 2) (by decide) a1b (by omega), mulOk q4 byb (by omega), ?_⟩
    refine then_intro ?_
    walk_at "dd"
    refine ⟨mulOk a1b e1b (by omega), ?_⟩
    refine then_intro ?_
    walk_at "dd"
    generalize hBB : b + 2 * a1 * by' = B at *
    have q7 := bits_mul q6 q6
    have db := disc_bits a0 hd ab bb cb
    generalize hD : disc (a, b, c) = D at *
    have q8 : (4 * (a1 * e1)).natAbs < 2 ^ (K + K + 3) := by
      have e3 : 2 ^ (K + K + 3) = 2 ^ (K + K) * 8 := Nat.pow_add 2 (K + K) 3
      omega
    rw [fdiv_pos _ (by omega)]
    have dF := J.disc hD (by show a1 * e1 ≠ 0; omega) rfl
    have q9 : ((B * B - D) / (4 * (a1 * e1))).natAbs < 2 ^ (8 * K + 8) := by
      refine Nat.lt_of_le_of_lt (Int.natAbs_ediv_le_natAbs _ _) ?_
      have := bits_add (y := -D) q7 (by rw [Int.natAbs_neg]; exact db)
      rw [← Int.sub_eq_add_neg] at this
      rwa [show 3 * K + 2 + (3 * K + 2) + (2 * K + 3) + 1 = 8 * K + 8 by omega] at this
    refine ⟨mulOk q6 q6 (by omega), mulOk (x := 4) (n := 3) (by decide) wb' (by omega), divOk (by omega) q8 (by omega), ⟨wp, by rw [dF]; exact hd, 8 * K + 8, by omega, bits_mono wb' (by omega), bits_mono q6 (by omega), q9⟩, fun G hG rG _ => H G ?_⟩
    exact JoinS.of hd J hD pf wp dF hG.eqv rG
  · exact H.elim
local macro_rules | `(tactic| walk_at "d1") => `(tactic| try simp only [dSeq, dSkip, dPass, dRet, dRetN, dDrop, dCond, dAsg, gNm, gTp, dOwn, dOwnL, dPar, dAug, dApp, dExt, dFrz, dFor, dLc, dBreak, dCont, dVar, dC, dOp, dT, dIsi, dNeg, dNot, dTNot, dAnd, dOr, dTAnd, dTOr, dIf, dCh, dNil, dCons, dTup, dLst, dIxO, dB, dCall, dCallW, dItems, dRng1, dRng2, dYes, fnE, startE, startW, startS, dLenO, dLenS, dIxS, dSl, dPt, dNo, wipeE, addD_int, addD_str, addD_tup, addD_lst, subD_int, mulD_int, mulD_tup, mulD_lst, fdivD_int, modD_int, powD_int, shlD_int, shrD_int, andD_int, ltD_int, leD_int, gtD_int, geD_int, eqD_ap, neD_ap, isD_ap, isNotD_ap, isNon_none, isNon_int, isNon_bool, isNon_str, isNon_tup, isNon_lst, isInt_none, isInt_int, isInt_bool, isInt_str, isInt_tup, isInt_lst, isBool_none, isBool_int, isBool_bool, isBool_str, isBool_tup, isBool_lst, isStr_none, isStr_int, isStr_bool, isStr_str, isStr_tup, isStr_lst, isTup_none, isTup_int, isTup_bool, isTup_str, isTup_tup, isTup_lst, isLst_lst, Cnd_true, Cnd_false, Cnd_not, Cnd_dec, asB_bool, forall_const, true_implies, false_implies, implies_true, decide_true, decide_false, Classical.not_not, negD_int, notD_bool, onVal_val, onOwn_own, onDic_dic, onScr_scr, onWv_wv, onInt_int, onTup_tup, onLst_lst, onItems_lst, onItems_tup, frz1_own, frz1_val, frz1_un, ixD_lst, ixD_tup, ixL_int, optD_some, optI_some, absD_int, intD_int, intD_bool, lenD_lst, lenD_tup, lenD_str, tupleD_lst, tupleD_tup, listD_lst, listD_tup, min2D_int, max2D_int, sumD_ints, allD_bls, anyD_bls, slD_lst, slD_tup, slD_str, gNl_nil, gCs_cons, par2_two, seq1_lst, seq1_tup, rng1D_int, rng2D_int, gt_z, gt_s, sp_next_int, set_z, set_s, List.map_cons, List.map_nil, List.length_cons, List.length_nil, List.cons_append, List.nil_append, List.replicate, Nat.reduceAdd, Nat.reduceSub, Nat.zero_add, shaped_int, shaped_bool, shaped_none, shaped_listI, shaped_tupI, shaped_nilL, shaped_nilT, eqv_int, eqv_bool, eqv_str, eqv_none, eqv_list_nil, List.isEmpty_nil, List.isEmpty_cons, Bool.true_eq_false, Bool.false_eq_true, decide_eq_true_eq, and_self, true_and, and_true, not_dec, Bool.not_eq_true', decide_eq_false_iff_not, atI_0, atI_1, atI_2, ite_true, ite_false, if_true, if_false, reduceIte, Bool.not_true, Bool.not_false, not_true_eq_false, not_false_eq_true, List.set_cons_zero, List.set_cons_succ, dPar3, dRev, par3_three, sortedD_ints, revD_tup, two_nat, one_nat, three_nat, dCh3, dOwnC, dPutPar, putPar_two, dZip2, zip2D_lst, zip2D_tup, dPut, isBD_bl, isNotBD_bl, dNewO, dPutO, dSortedO, putKD_int, dPar3O, dParO2, par3O_two, parO2_one, minLD_lst, dKeysW, rdPairs_nil, rdPairs_cons, onPair_ii, revD_lst, spx_law_d, spx_common, spx_least_two, spx_all_two, spx_law_common_v1, spx_law_all, spx_unit_two, spx_size_of_two, spx_law_changed, spx_law_drawn_v2, spx_law_least, spx_half, spx_eighth, spx_size_of, spx_without_twos, spx_mark, spx_law_plain, spx_power_of, spx_law_power_v2, spx_law_below_nothing, spx_law_turn_far, spx_law_turn_to, spx_law_prime_to, spx_joined_two])
local macro_rules | `(tactic| walk_at "dd") => `(tactic| (walk_at "d1"; repeat (with_reducible (refine then_intro ?_); walk_at "d1")))
def rd_law_joined_b1 : DTS :=
  (dAug 4 (fun i j => i + j) (dOp mulD (dC (.int 2)) (dVar 3)))
def rd_law_joined : DTS :=
  (dSeq (dAsg (dCall sp_law_below_nothing (dCons (dVar 0) dNil)) (gNm 2)) (dSeq (dAsg (dVar 0) (gTp 3 (gCs (gNm 3) (gCs (gNm 4) (gCs (gNm 5) gNl))))) (dSeq (dAsg (dCall sp_law_prime_to (dCons (dVar 1) (dCons (dVar 3) dNil))) (gTp 3 (gCs (gNm 6) (gCs (gNm 7) (gCs (gNm 8) gNl))))) (dSeq (dWhile (dT (dOp neD (dOp modD (dB intD (dCons (dOp subD (dVar 4) (dVar 7)) dNil)) (dOp mulD (dC (.int 2)) (dVar 6))) (dC (.int 0)))) rd_law_joined_b1) (dRet (dCall sp_law_least (dCons (dTup (dCons (dOp mulD (dVar 3) (dVar 6)) (dCons (dVar 4) (dCons (dOp fdivD (dOp subD (dOp mulD (dVar 4) (dVar 4)) (dVar 2)) (dOp mulD (dOp mulD (dC (.int 4)) (dVar 3)) (dVar 6))) dNil)))) dNil)))))))
def sp_law_joined : Lay.Spec := fun ds R => match ds with
  | [.tuple [.int a, .int b, .int c], .tuple [.int e, .int h, .int k]] => (∃ d, -260 ≤ d ∧ d < 0 ∧ FD d (a, b, c) ∧ FD d (e, h, k) ∧ HasXY (e, h, k) a) ∧ ∀ F, JoinS (disc (a, b, c)) (a, b, c) (e, h, k) F → PrimF F → R (formD F)
  | _ => False
theorem spx_law_joined {a b c e h k : Int} {R : D → Prop} : sp_law_joined [.tuple [.int a, .int b, .int c], .tuple [.int e, .int h, .int k]] R = ((∃ d, -260 ≤ d ∧ d < 0 ∧ FD d (a, b, c) ∧ FD d (e, h, k) ∧ HasXY (e, h, k) a) ∧ ∀ F, JoinS (disc (a, b, c)) (a, b, c) (e, h, k) F → PrimF F → R (formD F)) := rfl
theorem FD.primF {d : Int} {f : Form} (h : FD d f) : PrimF f := primF_of h.prim
theorem crt_has {a m w : Int} (m0 : 0 < m) (h : Int.gcd m a = 1) : ∃ t : Int, 0 ≤ t ∧ t < m ∧ m ∣ w + a * t := by
  obtain ⟨x, y, e⟩ := bezI m a
  rw [h] at e
  have e' : m * x + a * y = 1 := e
  refine ⟨(-w * y) % m, Int.emod_nonneg _ (by omega), Int.emod_lt_of_pos _ m0, ?_⟩
  have k := Int.mul_ediv_add_emod (-w * y) m
  refine ⟨w * x - a * ((-w * y) / m), ?_⟩
  have : (-w * y) % m = -w * y - m * ((-w * y) / m) := by omega
  rw [this]
  generalize (-w * y) / m = q
  have : w = w * (m * x + a * y) := by rw [e', Int.mul_one]
  grind
theorem ok_law_joined : ∀ ds R, sp_law_joined ds R → rd_law_joined (fnE R) (startE 9 ds) := by
  intro ds R H
  unfold sp_law_joined at H
  split at H
  · rename_i a b c e h k
    obtain ⟨⟨d, dlo, d0, hf, hg, hxy⟩, H⟩ := H
    have a0 : 0 < a := hf.pos
    obtain ⟨ab, bb, c0, cb⟩ := hf.bd dlo
    have ab : a ≤ 9 := ab
    have bb : b.natAbs ≤ 9 := bb
    have c0 : 0 < c := c0
    have cb : c ≤ 85 := cb
    obtain ⟨eb, hb, k0, kb⟩ := hg.bd dlo
    have eb : e ≤ 9 := eb
    have hb : h.natAbs ≤ 9 := hb
    have k0 : 0 < k := k0
    have kb : k ≤ 85 := kb
    have e0 : 0 < e := hg.pos
    have df : disc (a, b, c) = d := hf.disc
    have dg : disc (e, h, k) = d := hg.disc
    rw [df] at H
    unfold rd_law_joined
    walk_at "dd"
    refine ⟨⟨20, by decide, by omega, by omega, by omega⟩, ?_⟩
    rw [df]
    refine then_intro ?_
    walk_at "dd"
    refine ⟨⟨⟨by show e.natAbs ≤ 1000; omega, by show h.natAbs ≤ 1000; omega, by show k.natAbs ≤ 1000; omega⟩, hxy⟩, fun g hgg hcop gb => ?_⟩
    have eg : formD g = .tuple [.int g.1, .int g.2.1, .int g.2.2] := rfl
    rw [eg]
    have g0 : 0 < g.1 := hgg.pos e0 (by rw [dg]; exact d0)
    have dg' : disc g = d := by have := hgg.disc; rw [this]; exact dg
    have pg : PrimF g := hg.primF.eqv hgg
    obtain ⟨gb1, gb2, gb3⟩ := gb
    have par : (b + g.2.1) % 2 = 0 := by
      refine par_even (x := a * c - g.1 * g.2.2) ?_
      have e1 : b * b - 4 * a * c = d := df
      have e2 : g.2.1 * g.2.1 - 4 * g.1 * g.2.2 = d := dg'
      have : 4 * a * c = 4 * (a * c) := Int.mul_assoc ..
      have : 4 * g.1 * g.2.2 = 4 * (g.1 * g.2.2) := Int.mul_assoc ..
      omega
    obtain ⟨w, hw⟩ : ∃ w, b - g.2.1 = 2 * w := ⟨(b - g.2.1) / 2, by omega⟩
    obtain ⟨t0, t1, t2, t3⟩ := crt_has (w := w) g0 hcop
    walk_at "dd"
    refine while_by (fun (t : Int) => [.val (.tuple [.int a, .int b, .int c]), .val (.tuple [.int e, .int h, .int k]), .val (.int d), .val (.int a), .val (.int (b + 2 * a * t)), .val (.int c), .val (.int g.1), .val (.int g.2.1), .val (.int g.2.2)]) (fun t => 0 ≤ t ∧ t ≤ t0) (fun t => (t0 - t).toNat) 0 (by rw [Int.mul_zero, Int.add_zero]) ⟨Int.le_refl 0, t1⟩ ?_
    rintro t ⟨p1, p2⟩ bk
    have tb : t.natAbs < 2 ^ 50 := by omega
    have a6 : a.natAbs < 2 ^ 6 := by omega
    have a7 : (2 * a).natAbs < 2 ^ 7 := by omega
    have q1 := bits_mul a7 tb
    have Bb : (b + 2 * a * t).natAbs < 2 ^ 60 := by omega
    have hB : b + 2 * a * t - g.2.1 = 2 * (w + a * t) := by
      have : 2 * a * t = 2 * (a * t) := Int.mul_assoc ..
      omega
    walk_at "dd"
    rw [hB, fmod_pos _ (by omega)]
    refine ⟨mulOk (x := 2) (n := 2) (m := 50) (by decide) (by omega) (by decide), by omega, fun z => ?_, fun z => ?_⟩
    · obtain ⟨u, hu⟩ : g.1 ∣ w + a * t := by
        have := Int.dvd_of_emod_eq_zero z
        obtain ⟨q, hq⟩ := this
        have e2 : 2 * g.1 * q = 2 * (g.1 * q) := Int.mul_assoc ..
        exact ⟨q, by omega⟩
      have hu' : g.2.1 = (b + 2 * a * t) + 2 * g.1 * (-u) := by
        have : 2 * g.1 * (-u) = -(2 * (g.1 * u)) := by grind
        omega
      obtain ⟨hh, v, J⟩ := coprime_jd (f := (a, b, c)) (g := g) (B := b + 2 * a * t) (t := t) (u := -u) (C := ((b + 2 * a * t) * (b + 2 * a * t) - d) / (4 * (a * g.1))) (by rw [df, dg']) (by show Int.gcd a g.1 = 1; rw [Int.gcd_comm]; exact hcop) rfl hu'
      generalize hBB : b + 2 * a * t = B at *
      have wp : 0 < a * g.1 := Int.mul_pos a0 g0
      have wb' : (a * g.1).natAbs < 2 ^ 56 := bits_mul (n := 6) (m := 50) a6 (by omega)
      have q7 : (B * B).natAbs < 2 ^ 120 := bits_mul (n := 60) (m := 60) Bb Bb
      have dF : disc (a * g.1, B, (B * B - d) / (4 * (a * g.1))) = d := J.disc df (by show a * g.1 ≠ 0; omega) rfl
      have e4 : 4 * a * g.1 = 4 * (a * g.1) := Int.mul_assoc ..
      have q9 : ((B * B - d) / (4 * (a * g.1))).natAbs < 2 ^ 130 := by
        refine Nat.lt_of_le_of_lt (Int.natAbs_ediv_le_natAbs _ _) ?_
        omega
      refine then_intro ?_
      walk_at "dd"
      rw [e4, fdiv_pos _ (by omega)]
      refine ⟨mulOk a6 (m := 50) (by omega) (by decide), mulOk Bb Bb (by decide), mulOk (x := 4) (n := 3) (by decide) a6 (by decide), mulOk (n := 10) (m := 50) (by omega) (by omega) (by decide), divOk (by omega) (n := 60) (by omega) (by decide), ⟨wp, by rw [dF]; exact d0, 130, by decide, by show (a * g.1).natAbs < _; omega, by show B.natAbs < _; omega, q9⟩, fun F hF rF => ?_⟩
      have JS := JoinS.of d0 J df hf.primF wp dF hF rF
      refine H F (JS.congr d0 .refl (hgg.sim d0 e0 dg)) ?_
      exact (coprime_prim (B := B) J (by show Int.gcd a g.1 = 1; rw [Int.gcd_comm]; exact hcop) (by show a ≠ 0; omega) (by omega) df dg' dF hf.primF pg).eqv hF
    · unfold rd_law_joined_b1
      walk_at "dd"
      have ne : t ≠ t0 := fun e => z (by
        rw [e]
        obtain ⟨q, hq⟩ := t3
        rw [hq, show 2 * (g.1 * q) = 2 * g.1 * q by grind]
        exact Int.mul_emod_right _ _)
      refine ⟨mulOk (x := 2) (n := 2) (by decide) a6 (by decide), t + 1, ?_, ⟨by omega, by omega⟩, by omega⟩
      rw [show b + 2 * a * (t + 1) = b + 2 * a * t + 2 * a by grind]
  · exact H.elim
local macro_rules | `(tactic| walk_at "d1") => `(tactic| try simp only [dSeq, dSkip, dPass, dRet, dRetN, dDrop, dCond, dAsg, gNm, gTp, dOwn, dOwnL, dPar, dAug, dApp, dExt, dFrz, dFor, dLc, dBreak, dCont, dVar, dC, dOp, dT, dIsi, dNeg, dNot, dTNot, dAnd, dOr, dTAnd, dTOr, dIf, dCh, dNil, dCons, dTup, dLst, dIxO, dB, dCall, dCallW, dItems, dRng1, dRng2, dYes, fnE, startE, startW, startS, dLenO, dLenS, dIxS, dSl, dPt, dNo, wipeE, addD_int, addD_str, addD_tup, addD_lst, subD_int, mulD_int, mulD_tup, mulD_lst, fdivD_int, modD_int, powD_int, shlD_int, shrD_int, andD_int, ltD_int, leD_int, gtD_int, geD_int, eqD_ap, neD_ap, isD_ap, isNotD_ap, isNon_none, isNon_int, isNon_bool, isNon_str, isNon_tup, isNon_lst, isInt_none, isInt_int, isInt_bool, isInt_str, isInt_tup, isInt_lst, isBool_none, isBool_int, isBool_bool, isBool_str, isBool_tup, isBool_lst, isStr_none, isStr_int, isStr_bool, isStr_str, isStr_tup, isStr_lst, isTup_none, isTup_int, isTup_bool, isTup_str, isTup_tup, isTup_lst, isLst_lst, Cnd_true, Cnd_false, Cnd_not, Cnd_dec, asB_bool, forall_const, true_implies, false_implies, implies_true, decide_true, decide_false, Classical.not_not, negD_int, notD_bool, onVal_val, onOwn_own, onDic_dic, onScr_scr, onWv_wv, onInt_int, onTup_tup, onLst_lst, onItems_lst, onItems_tup, frz1_own, frz1_val, frz1_un, ixD_lst, ixD_tup, ixL_int, optD_some, optI_some, absD_int, intD_int, intD_bool, lenD_lst, lenD_tup, lenD_str, tupleD_lst, tupleD_tup, listD_lst, listD_tup, min2D_int, max2D_int, sumD_ints, allD_bls, anyD_bls, slD_lst, slD_tup, slD_str, gNl_nil, gCs_cons, par2_two, seq1_lst, seq1_tup, rng1D_int, rng2D_int, gt_z, gt_s, sp_next_int, set_z, set_s, List.map_cons, List.map_nil, List.length_cons, List.length_nil, List.cons_append, List.nil_append, List.replicate, Nat.reduceAdd, Nat.reduceSub, Nat.zero_add, shaped_int, shaped_bool, shaped_none, shaped_listI, shaped_tupI, shaped_nilL, shaped_nilT, eqv_int, eqv_bool, eqv_str, eqv_none, eqv_list_nil, List.isEmpty_nil, List.isEmpty_cons, Bool.true_eq_false, Bool.false_eq_true, decide_eq_true_eq, and_self, true_and, and_true, not_dec, Bool.not_eq_true', decide_eq_false_iff_not, atI_0, atI_1, atI_2, ite_true, ite_false, if_true, if_false, reduceIte, Bool.not_true, Bool.not_false, not_true_eq_false, not_false_eq_true, List.set_cons_zero, List.set_cons_succ, dPar3, dRev, par3_three, sortedD_ints, revD_tup, two_nat, one_nat, three_nat, dCh3, dOwnC, dPutPar, putPar_two, dZip2, zip2D_lst, zip2D_tup, dPut, isBD_bl, isNotBD_bl, dNewO, dPutO, dSortedO, putKD_int, dPar3O, dParO2, par3O_two, parO2_one, minLD_lst, dKeysW, rdPairs_nil, rdPairs_cons, onPair_ii, revD_lst, spx_law_d, spx_common, spx_least_two, spx_all_two, spx_law_common_v1, spx_law_all, spx_unit_two, spx_size_of_two, spx_law_changed, spx_law_drawn_v2, spx_law_least, spx_half, spx_eighth, spx_size_of, spx_without_twos, spx_mark, spx_law_plain, spx_power_of, spx_law_power_v2, spx_law_turn_far, spx_law_turn_to, spx_law_prime_to, spx_law_below_nothing, spx_joined_two, spx_law_joined])
local macro_rules | `(tactic| walk_at "dd") => `(tactic| (walk_at "d1"; repeat (with_reducible (refine then_intro ?_); walk_at "d1")))
/-- all least forms, so that they can be reckoned -/
def allG : Nat → Int → Nat → List Form
  | 0, _, _ => []
  | n + 1, d, a => if 3 * (a : Int) * a ≤ -d then rowF d a (bsOf a) ++ allG n d (a + 1) else []
theorem allF_G {d : Int} : ∀ (n a : Nat), -d < 3 * ((a + n : Nat) : Int) * ((a + n : Nat) : Int) → allF d a = allG n d a
  | 0, a, h => by rw [allF_stop (by rw [Nat.add_zero] at h; omega)]; rfl
  | n + 1, a, h => by
    unfold allG
    by_cases z : 3 * (a : Int) * a ≤ -d
    · rw [allF_more z, if_pos z, allF_G n (a + 1) (by rw [show a + 1 + n = a + (n + 1) by omega]; exact h)]
    · rw [allF_stop z, if_neg z]
theorem allF_dS {d : Int} (hd : -260 ≤ d) : allF d 1 = allG 9 d 1 := allF_G 9 1 (by show -d < 3 * 10 * 10; omega)
def goodL : List (Int × Int) := [(1, 0), (0, 1), (1, 1), (1, 2), (2, 1), (-1, 1), (-1, 2), (-2, 1), (1, 3), (3, 1), (-3, 1)]
theorem goodL_ok : ∀ p ∈ goodL, p.1.natAbs ≤ 39 ∧ 0 ≤ p.2 ∧ p.2 ≤ 39 ∧ Int.gcd p.1 p.2 = 1 := by decide
def goodB (g : Form) (a : Int) : Bool := goodL.any fun (p : Int × Int) => decide (0 < valF g p.1 p.2) && decide (Int.gcd (valF g p.1 p.2) a = 1)
theorem good_all : (dS.all fun d => (allG 9 d 1).all fun g => (List.range 9).all fun a => goodB g ((a : Int) + 1)) = true := by decide +kernel
theorem has_xy {d : Int} (hd : d ∈ dS) {f g : Form} (hf : FD d f) (hg : FD d g) : HasXY g f.1 := by
  obtain ⟨d0, d2, d4⟩ := dS_all d hd
  have b := hf.bd d2
  have a0 := hf.pos
  have h1 := List.all_eq_true.mp good_all d hd
  have h2 := List.all_eq_true.mp h1 g (by rw [← allF_dS d2]; exact hg.mem)
  have h3 := List.all_eq_true.mp h2 (f.1 - 1).toNat (List.mem_range.mpr (by omega))
  rw [show (((f.1 - 1).toNat : Nat) : Int) + 1 = f.1 by omega] at h3
  unfold goodB at h3
  obtain ⟨p, hp, h4⟩ := List.any_eq_true.mp h3
  rw [Bool.and_eq_true, decide_eq_true_eq, decide_eq_true_eq] at h4
  have := goodL_ok p hp
  exact ⟨p.1, p.2, this.1, this.2.1, this.2.2.1, h4.1, this.2.2.2, h4.2⟩
theorem fd_mk {d : Int} {f : Form} (h0 : 0 < f.1) (hr : Red f) (hd : disc f = d) (hp : PrimF f) : FD d f := fd_of (allF_has h0 hr hd hp)
theorem jd_val {D : Int} {f g F : Form} {n a e h t u v : Int} (J : JD f g F n a e h t u v) (hf : disc f = D) (hg : disc g = D) (hF : disc F = D) (f0 : f.1 ≠ 0) (g0 : g.1 ≠ 0) (x y z w : Int) :
    valF F (n * (x * z) + u * (x * w) - t * (y * z) - v * (y * w)) (a * (x * w) + e * (y * z) + h * (y * w)) = valF f x y * valF g z w := by
  have k := congrArg (nrm D) (join_elt J hf x y z w)
  rw [nrm_mul, nrm_mul, ← hf, nrm_elt, hf, ← hg, nrm_elt, hg, ← hF, nrm_elt, hF] at k
  have n2 : nrm D (2 * n, 0) = 4 * (n * n) := by unfold nrm; simp only; grind
  rw [n2, J.hF] at k
  have ef := J.ha
  have eg := J.he
  have nz : 16 * (f.1 * g.1) ≠ 0 := by
    have := Int.mul_ne_zero f0 g0
    omega
  refine Int.eq_of_mul_eq_mul_left nz ?_
  have l : 16 * (f.1 * g.1) * valF F (n * (x * z) + u * (x * w) - t * (y * z) - v * (y * w)) (a * (x * w) + e * (y * z) + h * (y * w)) = 4 * (n * n) * (4 * (a * e) * valF F (n * (x * z) + u * (x * w) - t * (y * z) - v * (y * w)) (a * (x * w) + e * (y * z) + h * (y * w))) := by
    rw [ef, eg]; grind
  rw [l, ← k]
  grind
/-- what is joined is one of the list, and tells the products -/
theorem join_full {d : Int} (hd : d ∈ dS) {f g : Form} (hf : FD d f) (hg : FD d g) : ∃ F, FD d F ∧ JoinS d f g F ∧ ∀ x y z w, ∃ X Y, valF F X Y = valF f x y * valF g z w := by
  obtain ⟨d0, d2, d4⟩ := dS_all d hd
  obtain ⟨x, y, _, _, _, v0, gxy, gv⟩ := has_xy hd hf hg
  obtain ⟨s, q, e⟩ := bezI x y
  rw [gxy] at e
  have e' : x * s - (-q) * y = 1 := by
    have : x * s + y * q = 1 := e
    have : -q * y = -(y * q) := by grind
    omega
  have eqv : Eqv g (act g x (-q) y s) := ⟨x, -q, y, s, e', rfl⟩
  have first : (act g x (-q) y s).1 = valF g x y := rfl
  generalize act g x (-q) y s = g' at *
  have g0 : 0 < g'.1 := by rw [first]; exact v0
  have hcop : Int.gcd g'.1 f.1 = 1 := by rw [first]; exact gv
  have dg' : disc g' = d := by have := eqv.disc; rw [this]; exact hg.disc
  have pg : PrimF g' := hg.primF.eqv eqv
  have f0 := hf.pos
  have par : (f.2.1 + g'.2.1) % 2 = 0 := by
    refine par_even (x := f.1 * f.2.2 - g'.1 * g'.2.2) ?_
    have e1 : f.2.1 * f.2.1 - 4 * f.1 * f.2.2 = d := hf.disc
    have e2 : g'.2.1 * g'.2.1 - 4 * g'.1 * g'.2.2 = d := dg'
    have : 4 * f.1 * f.2.2 = 4 * (f.1 * f.2.2) := Int.mul_assoc ..
    have : 4 * g'.1 * g'.2.2 = 4 * (g'.1 * g'.2.2) := Int.mul_assoc ..
    omega
  obtain ⟨w, hw⟩ : ∃ w, f.2.1 - g'.2.1 = 2 * w := ⟨(f.2.1 - g'.2.1) / 2, by omega⟩
  obtain ⟨t, _, _, u, hu⟩ := crt_has (w := w) g0 hcop
  have hu' : g'.2.1 = (f.2.1 + 2 * f.1 * t) + 2 * g'.1 * (-u) := by
    have : 2 * g'.1 * (-u) = -(2 * (g'.1 * u)) := by grind
    have : 2 * f.1 * t = 2 * (f.1 * t) := Int.mul_assoc ..
    omega
  obtain ⟨hh, v, J⟩ := coprime_jd (f := f) (g := g') (B := f.2.1 + 2 * f.1 * t) (t := t) (u := -u) (C := ((f.2.1 + 2 * f.1 * t) * (f.2.1 + 2 * f.1 * t) - d) / (4 * (f.1 * g'.1))) (by rw [hf.disc, dg']) (by rw [Int.gcd_comm]; exact hcop) rfl hu'
  have wp : 0 < f.1 * g'.1 := Int.mul_pos f0 g0
  have dF := J.disc hf.disc (by show f.1 * g'.1 ≠ 0; omega) rfl
  obtain ⟨F, hF, rF⟩ := exists_red (f := (f.1 * g'.1, f.2.1 + 2 * f.1 * t, ((f.2.1 + 2 * f.1 * t) * (f.2.1 + 2 * f.1 * t) - d) / (4 * (f.1 * g'.1)))) wp (by rw [dF]; exact d0)
  have JS := JoinS.of d0 J hf.disc hf.primF wp dF hF rF
  have pF : PrimF F := (coprime_prim (B := f.2.1 + 2 * f.1 * t) J (by rw [Int.gcd_comm]; exact hcop) (by omega) (by omega) hf.disc dg' dF hf.primF pg).eqv hF
  refine ⟨F, fd_mk JS.pos JS.red JS.disc pF, JS.congr d0 .refl (eqv.sim d0 hg.pos hg.disc), fun x1 y1 z1 w1 => ?_⟩
  obtain ⟨p, q', r, s', _, ev⟩ := eqv.symm
  obtain ⟨p2, q2, r2, s2, _, ev2⟩ := hF.symm
  have v1 : valF g z1 w1 = valF g' (p * z1 + q' * w1) (r * z1 + s' * w1) := by rw [ev]; unfold valF act; simp only; grind
  have key := jd_val J hf.disc dg' dF (by omega) (by omega) x1 y1 (p * z1 + q' * w1) (r * z1 + s' * w1)
  rw [v1, ← key]
  have v2 : ∀ X Y : Int, ∃ X' Y' : Int, valF F X' Y' = valF (f.1 * g'.1, f.2.1 + 2 * f.1 * t, ((f.2.1 + 2 * f.1 * t) * (f.2.1 + 2 * f.1 * t) - d) / (4 * (f.1 * g'.1))) X Y := fun X Y => by
    refine ⟨p2 * X + q2 * Y, r2 * X + s2 * Y, ?_⟩
    rw [ev2]
    unfold valF act
    simp only
    grind
  exact v2 _ _
theorem join_ex {d : Int} (hd : d ∈ dS) {f g : Form} (hf : FD d f) (hg : FD d g) : ∃ F, FD d F ∧ JoinS d f g F :=
  let ⟨F, h1, h2, _⟩ := join_full hd hf hg
  ⟨F, h1, h2⟩
local macro_rules | `(tactic| walk_at "d1") => `(tactic| try simp only [dSeq, dSkip, dPass, dRet, dRetN, dDrop, dCond, dAsg, gNm, gTp, dOwn, dOwnL, dPar, dAug, dApp, dExt, dFrz, dFor, dLc, dBreak, dCont, dVar, dC, dOp, dT, dIsi, dNeg, dNot, dTNot, dAnd, dOr, dTAnd, dTOr, dIf, dCh, dNil, dCons, dTup, dLst, dIxO, dB, dCall, dCallW, dItems, dRng1, dRng2, dYes, fnE, startE, startW, startS, dLenO, dLenS, dIxS, dSl, dPt, dNo, wipeE, addD_int, addD_str, addD_tup, addD_lst, subD_int, mulD_int, mulD_tup, mulD_lst, fdivD_int, modD_int, powD_int, shlD_int, shrD_int, andD_int, ltD_int, leD_int, gtD_int, geD_int, eqD_ap, neD_ap, isD_ap, isNotD_ap, isNon_none, isNon_int, isNon_bool, isNon_str, isNon_tup, isNon_lst, isInt_none, isInt_int, isInt_bool, isInt_str, isInt_tup, isInt_lst, isBool_none, isBool_int, isBool_bool, isBool_str, isBool_tup, isBool_lst, isStr_none, isStr_int, isStr_bool, isStr_str, isStr_tup, isStr_lst, isTup_none, isTup_int, isTup_bool, isTup_str, isTup_tup, isTup_lst, isLst_lst, Cnd_true, Cnd_false, Cnd_not, Cnd_dec, asB_bool, forall_const, true_implies, false_implies, implies_true, decide_true, decide_false, Classical.not_not, negD_int, notD_bool, onVal_val, onOwn_own, onDic_dic, onScr_scr, onWv_wv, onInt_int, onTup_tup, onLst_lst, onItems_lst, onItems_tup, frz1_own, frz1_val, frz1_un, ixD_lst, ixD_tup, ixL_int, optD_some, optI_some, absD_int, intD_int, intD_bool, lenD_lst, lenD_tup, lenD_str, tupleD_lst, tupleD_tup, listD_lst, listD_tup, min2D_int, max2D_int, sumD_ints, allD_bls, anyD_bls, slD_lst, slD_tup, slD_str, gNl_nil, gCs_cons, par2_two, seq1_lst, seq1_tup, rng1D_int, rng2D_int, gt_z, gt_s, sp_next_int, set_z, set_s, List.map_cons, List.map_nil, List.length_cons, List.length_nil, List.cons_append, List.nil_append, List.replicate, Nat.reduceAdd, Nat.reduceSub, Nat.zero_add, shaped_int, shaped_bool, shaped_none, shaped_listI, shaped_tupI, shaped_nilL, shaped_nilT, eqv_int, eqv_bool, eqv_str, eqv_none, eqv_list_nil, List.isEmpty_nil, List.isEmpty_cons, Bool.true_eq_false, Bool.false_eq_true, decide_eq_true_eq, and_self, true_and, and_true, not_dec, Bool.not_eq_true', decide_eq_false_iff_not, atI_0, atI_1, atI_2, ite_true, ite_false, if_true, if_false, reduceIte, Bool.not_true, Bool.not_false, not_true_eq_false, not_false_eq_true, List.set_cons_zero, List.set_cons_succ, dPar3, dRev, par3_three, sortedD_ints, revD_tup, two_nat, one_nat, three_nat, dCh3, dOwnC, dPutPar, putPar_two, dZip2, zip2D_lst, zip2D_tup, dPut, isBD_bl, isNotBD_bl, dNewO, dPutO, dSortedO, putKD_int, dPar3O, dParO2, par3O_two, parO2_one, minLD_lst, dKeysW, rdPairs_nil, rdPairs_cons, onPair_ii, revD_lst, spx_law_d, spx_common, spx_least_two, spx_all_two, spx_law_common_v1, spx_law_all, spx_unit_two, spx_size_of_two, spx_law_changed, spx_law_drawn_v2, spx_law_least, spx_half, spx_eighth, spx_size_of, spx_without_twos, spx_mark, spx_law_plain, spx_power_of, spx_law_power_v2, spx_law_turn_far, spx_law_turn_to, spx_law_prime_to, spx_law_below_nothing, spx_joined_two, spx_law_joined])
local macro_rules | `(tactic| walk_at "dd") => `(tactic| (walk_at "d1"; repeat (with_reducible (refine then_intro ?_); walk_at "d1")))
def rd_law_k55_c1 : DTS :=
  (dCond (dTOr (dT (dOp neD (dCall sp_joined_two (dCons (dVar 8) (dCons (dVar 7) dNil))) (dCall sp_joined_two (dCons (dVar 5) (dCons (dCall sp_joined_two (dCons (dVar 6) (dCons (dVar 7) dNil))) dNil))))) (dT (dOp neD (dCall sp_joined_two (dCons (dVar 5) (dCons (dCall sp_unit_two (dCons (dVar 3) dNil)) dNil))) (dVar 5)))) (dRet (dC (.bool false))) dSkip)
def rd_law_k55_b1 : DTS :=
  (dSeq (dAsg (dCallW 1 sp_law_d dNil) (gNm 3)) (dSeq (dAsg (dCall sp_law_all (dCons (dVar 3) dNil)) (gNm 4)) (dSeq (dPar3 5 6 7 (dCons (dCallW 1 sp_law_pick (dCons (dVar 4) dNil)) (dCons (dCallW 1 sp_law_pick (dCons (dVar 4) dNil)) (dCons (dCallW 1 sp_law_pick (dCons (dVar 4) dNil)) dNil)))) (dSeq (dAsg (dCall sp_law_joined (dCons (dVar 5) (dCons (dVar 6) dNil))) (gNm 8)) (dSeq (dCond (dTOr (dTNot (dT (dCall sp_law_alike (dCons (dCall sp_joined_two (dCons (dVar 5) (dCons (dVar 6) dNil))) (dCons (dVar 8) dNil))))) (dTNot (dT (dCall sp_law_alike (dCons (dCall sp_joined_two (dCons (dCallW 1 sp_law_drawn_v2 (dCons (dVar 6) dNil)) (dCons (dVar 5) dNil))) (dCons (dVar 8) dNil)))))) (dRet (dC (.bool false))) dSkip) rd_law_k55_c1)))))
def rd_law_k55 : DTS :=
  (dSeq (dFor (dRng1 (dCons (dC (.int 4)) dNil)) (gNm 2) rd_law_k55_b1) (dRet (dAnd (dCall sp_law_alike (dCons (dCall sp_joined_two (dCons (dTup (dCons (dC (.int 2)) (dCons (dC (.int 1)) (dCons (dC (.int 3)) dNil)))) (dCons (dTup (dCons (dC (.int 2)) (dCons (dC (.int 1)) (dCons (dC (.int 3)) dNil)))) dNil))) (dCons (dTup (dCons (dC (.int 2)) (dCons (dNeg (dC (.int 1))) (dCons (dC (.int 3)) dNil)))) dNil))) (dCall sp_law_alike (dCons (dCall sp_joined_two (dCons (dTup (dCons (dC (.int 2)) (dCons (dC (.int 2)) (dCons (dC (.int 3)) dNil)))) (dCons (dTup (dCons (dC (.int 2)) (dCons (dC (.int 2)) (dCons (dC (.int 3)) dNil)))) dNil))) (dCons (dTup (dCons (dC (.int 1)) (dCons (dC (.int 0)) (dCons (dC (.int 5)) dNil)))) dNil))))))
theorem pick_list {d : Int} (hd : d ∈ dS) {ms : List (List Int)} (h1 : ms.Perm ((allF d 1).map formI)) {R : D → Prop} (h : ∀ f, FD d f → R (formD f)) : sp_law_pick [.list (ms.map tupD)] R := by
  obtain ⟨d0, d2, d4⟩ := dS_all d hd
  obtain ⟨fs, rfl, hp⟩ := forms_of h1
  refine ⟨fun e => ?_, fun x hx => ?_⟩
  · have : fs = [] := by
      have := congrArg List.length e
      rw [List.length_map, List.length_map] at this
      exact List.length_eq_zero_iff.mp this
    subst this
    exact allF_ne d0 d4 (List.nil_perm.mp hp)
  · rw [List.map_map] at hx
    obtain ⟨f, hf, rfl⟩ := List.mem_map.mp hx
    exact h f (fd_of (hp.mem_iff.mp hf))
theorem jt_call {d : Int} (hd : d ∈ dS) {f g F f' g' : Form} (hf : FD d f) (hg : FD d g) (JS : JoinS d f g F) (ef : Eqv f f') (eg : Eqv g g') (bf : Bd3 8000000 f') (bg : Bd3 8000000 g') {R : D → Prop} (h : R (formD F)) : sp_joined_two [formD f', formD g'] R := by
  obtain ⟨d0, d2, d4⟩ := dS_all d hd
  have df' : disc f' = d := by have := ef.disc; rw [this]; exact hf.disc
  have dg' : disc g' = d := by have := eg.disc; rw [this]; exact hg.disc
  have p30 : 8000000 < 2 ^ 30 := by decide
  obtain ⟨b1, b2, b3⟩ := bf
  obtain ⟨c1, c2, c3⟩ := bg
  have e1 : disc (f'.1, f'.2.1, f'.2.2) = d := df'
  have e2 : disc (g'.1, g'.2.1, g'.2.2) = d := dg'
  refine ⟨⟨ef.pos hf.pos (by rw [hf.disc]; exact d0), eg.pos hg.pos (by rw [hg.disc]; exact d0), by rw [e1]; exact d0, by rw [e1, e2], hf.primF.eqv ef, 30, by decide, ⟨by show f'.1.natAbs < _; omega, by show f'.2.1.natAbs < _; omega, by show f'.2.2.natAbs < _; omega⟩, ⟨by show g'.1.natAbs < _; omega, by show g'.2.1.natAbs < _; omega, by show g'.2.2.natAbs < _; omega⟩⟩, fun G hG => ?_⟩
  rw [e1] at hG
  have : G = F := JoinS.uniq d0 (hG.congr d0 (ef.sim d0 hf.pos hf.disc) (eg.sim d0 hg.pos hg.disc)) JS
  rw [this]
  exact h
theorem lj_call {d : Int} (hd : d ∈ dS) {f g F : Form} (hf : FD d f) (hg : FD d g) (JS : JoinS d f g F) {R : D → Prop} (h : R (formD F)) : sp_law_joined [formD f, formD g] R := by
  obtain ⟨d0, d2, d4⟩ := dS_all d hd
  refine ⟨⟨d, d2, d0, hf, hg, has_xy hd hf hg⟩, fun G hG _ => ?_⟩
  have e1 : disc (f.1, f.2.1, f.2.2) = d := hf.disc
  rw [e1] at hG
  rw [JoinS.uniq d0 hG JS]
  exact h
theorem FD.bd8 {d : Int} {f : Form} (h : FD d f) (hd : d ∈ dS) : Bd3 8000000 f := by
  obtain ⟨b1, b2, b3⟩ := h.bd3 (dS_all d hd).2.1
  exact ⟨by omega, by omega, by omega⟩
theorem dr_call {d : Int} (hd : d ∈ dS) {f : Form} (hf : FD d f) {R : D → Prop} (h : ∀ g, Eqv f g → Bd3 8000000 g → R (formD g)) : sp_law_drawn_v2 [formD f] R := by
  obtain ⟨b1, b2, b3⟩ := hf.bd3 (dS_all d hd).2.1
  exact ⟨⟨by show f.1.natAbs ≤ _; omega, by show f.2.1.natAbs ≤ _; omega, by show f.2.2.natAbs ≤ _; omega⟩, h⟩
theorem form_sh (f : Form) : SeqAt.shaped (formD f) = true := tame_sh 1 (form_tame f)
theorem joinS_mk {D : Int} (hD : D < 0) {f g F0 F : Form} {n a e h t u v : Int} (J : JD f g F0 n a e h t u v) (hf : disc f = D) (pf : PrimF f) (F0p : 0 < F0.1) (F0d : disc F0 = D) (hr : FEq F0 F) (rF : Red F) : JoinS D f g F := JoinS.of hD J hf pf F0p F0d hr.eqv rF
theorem j23 : JoinS (-23) (2, 1, 3) (2, 1, 3) (2, -1, 3) :=
  joinS_mk (F0 := (4, 5, 3)) (n := 1) (a := 2) (e := 2) (h := 1) (t := 1) (u := -1) (v := 2) (by decide) ⟨by decide, by decide, by decide, by decide, by decide, by decide, by decide, by decide⟩ (by decide) ⟨-1, 0, 1, by decide⟩ (by decide) (by decide) (show FEq (4, 5, 3) (shiftF (-1) (swapF (shiftF (-1) (4, 5, 3)))) from .shift _ (.swap (.shift _ (.refl _)))) (by decide)
theorem j20 : JoinS (-20) (2, 2, 3) (2, 2, 3) (1, 0, 5) :=
  joinS_mk (F0 := (1, 2, 6)) (n := 2) (a := 1) (e := 1) (h := 1) (t := 0) (u := 0) (v := 3) (by decide) ⟨by decide, by decide, by decide, by decide, by decide, by decide, by decide, by decide⟩ (by decide) ⟨-1, 0, 1, by decide⟩ (by decide) (by decide) (show FEq (1, 2, 6) (shiftF (-1) (1, 2, 6)) from .shift _ (.refl _)) (by decide)
/-- the form that does nothing -/
theorem unit_fd {d : Int} (hd : d ∈ dS) : FD d (unitF d) := by
  obtain ⟨d0, d2, d4⟩ := dS_all d hd
  refine fd_of ?_
  have : unitF d ∈ (allF d 1).filter (fun f => decide (f.1 = 1)) := by rw [allF_first d0 d4]; exact List.mem_cons_self
  exact (List.mem_filter.mp this).1
theorem join_unit {d : Int} (hd : d ∈ dS) {f : Form} (hf : FD d f) : JoinS d f (unitF d) f := by
  obtain ⟨d0, d2, d4⟩ := dS_all d hd
  have hu := unit_fd hd
  have u1 : (unitF d).1 = 1 := by unfold unitF; split <;> rfl
  have par : (f.2.1 + (unitF d).2.1) % 2 = 0 := by
    refine par_even (x := f.1 * f.2.2 - (unitF d).1 * (unitF d).2.2) ?_
    have e1 : f.2.1 * f.2.1 - 4 * f.1 * f.2.2 = d := hf.disc
    have e2 : (unitF d).2.1 * (unitF d).2.1 - 4 * (unitF d).1 * (unitF d).2.2 = d := hu.disc
    have : 4 * f.1 * f.2.2 = 4 * (f.1 * f.2.2) := Int.mul_assoc ..
    have : 4 * (unitF d).1 * (unitF d).2.2 = 4 * ((unitF d).1 * (unitF d).2.2) := Int.mul_assoc ..
    omega
  obtain ⟨w, hw⟩ : ∃ w, (unitF d).2.1 - f.2.1 = 2 * w := ⟨((unitF d).2.1 - f.2.1) / 2, by omega⟩
  obtain ⟨hh, v, J⟩ := coprime_jd (f := f) (g := unitF d) (B := f.2.1) (t := 0) (u := w) (C := f.2.2) (by rw [hf.disc, hu.disc]) (by rw [u1]; exact Int.gcd_one_right _) (by omega) (by rw [u1]; omega)
  have eF : (f.1 * (unitF d).1, f.2.1, f.2.2) = f := by rw [u1, Int.mul_one]
  rw [eF] at J
  exact JoinS.of d0 J hf.disc hf.primF hf.pos hf.disc (.refl _) hf.red
theorem ok_law_k55 : rd_law_k55 (fnE fun d => d = .bool true) (.un :: .wv :: List.replicate 7 .un) := by
  unfold rd_law_k55
  walk_at "dd"
  refine ⟨by decide, ?_⟩
  refine for_by (fun (s : Sl × Sl × Sl × Sl × Sl × Sl × Sl) => [.un, .wv, s.1, s.2.1, s.2.2.1, s.2.2.2.1, s.2.2.2.2.1, s.2.2.2.2.2.1, s.2.2.2.2.2.2]) (fun _ _ => True) (.un, .un, .un, .un, .un, .un, .un) rfl trivial ?_ ?_
  · rintro i e he ⟨u1, u2, u3, u4, u5, u6, u7⟩ _ bk
    unfold rd_law_k55_b1
    walk_at "dd"
    intro d hd
    obtain ⟨d0, d2, d4⟩ := dS_all d hd
    walk_at "dd"
    refine ⟨⟨d0, by omega⟩, fun ms hp _ => ?_⟩
    refine then_intro ?_
    walk_at "dd"
    refine pick_list hd hp fun f hf => ?_
    refine pick_list hd hp fun g hg => ?_
    refine pick_list hd hp fun h hh => ?_
    obtain ⟨F, hF, JF⟩ := join_ex hd hf hg
    obtain ⟨A, hA, JA⟩ := join_ex hd hF hh
    obtain ⟨B, hB, JB⟩ := join_ex hd hg hh
    obtain ⟨C, hC, JC⟩ := join_ex hd hf hB
    have eAC : A = C := JoinS.assoc d0 JF JA JB JC
    refine then_intro ?_
    walk_at "dd"
    refine lj_call hd hf hg JF ?_
    refine then_intro ?_
    walk_at "dd"
    refine jt_call hd hf hg JF (.refl _) (.refl _) (hf.bd8 hd) (hg.bd8 hd) ?_
    refine alike_self 1 (form_tame F) ?_
    walk_at "dd"
    refine dr_call hd hg fun g' eg bg => ?_
    refine jt_call hd hg hf (JF.comm d0) eg (.refl _) bg (hf.bd8 hd) ?_
    refine alike_self 1 (form_tame F) ?_
    walk_at "dd"
    unfold rd_law_k55_c1
    walk_at "dd"
    refine jt_call hd hF hh JA (.refl _) (.refl _) (hF.bd8 hd) (hh.bd8 hd) ?_
    refine jt_call hd hg hh JB (.refl _) (.refl _) (hg.bd8 hd) (hh.bd8 hd) ?_
    refine jt_call hd hf hB JC (.refl _) (.refl _) (hf.bd8 hd) (hB.bd8 hd) ?_
    rw [eAC, eqv_form, decide_eq_true rfl]
    refine ⟨⟨form_sh _, form_sh _⟩, ?_⟩
    walk_at "dd"
    refine jt_call hd hf (unit_fd hd) (join_unit hd hf) (.refl _) (.refl _) (hf.bd8 hd) ((unit_fd hd).bd8 hd) ?_
    rw [eqv_form, decide_eq_true rfl]
    refine ⟨⟨form_sh _, form_sh _⟩, ?_⟩
    walk_at "dd"
    exact ⟨(_, _, _, _, _, _, _), rfl⟩
  · rintro ⟨u1, u2, u3, u4, u5, u6, u7⟩ _
    walk_at "dd"
    have e23 : disc (2, 1, 3) = -23 := by decide
    have e20 : disc (2, 2, 3) = -20 := by decide
    rw [e23, e20]
    refine ⟨⟨by decide, by decide, by decide, ⟨-1, 0, 1, by decide⟩, 10, by decide, by decide, by decide, by decide⟩, fun F hF => ?_⟩
    rw [JoinS.uniq (by decide) hF j23]
    refine alike_self 1 rfl ?_
    walk_at "dd"
    refine ⟨⟨by decide, by decide, by decide, ⟨-1, 0, 1, by decide⟩, 10, by decide, by decide, by decide, by decide⟩, fun F hF => ?_⟩
    rw [JoinS.uniq (by decide) hF j20]
    exact alike_self 1 rfl rfl
def top (i : Nat) : Stmt := PySem.Challenge.pw_placewise_k55_joined_forms.main.body.getD i (.Pass ⟨0, 0, 0, 0⟩)
section
variable {P : Program} {w : World} {K : PySem.W.Frag} {mg : Str → Option Value} {base : Heap}
abbrev s_law_draws : Stmt := top 8
theorem sc_law_draws : FnScope ["script", "many", "draws", "mixed", "k", "cell", "rest", "turn"] ["script", "many"] (defScope s_law_draws) := ⟨rfl, rfl, rfl, by decide +kernel, rfl, by decide +kernel, by decide +kernel⟩
theorem fn_law_draws {f : Addr} {fd : FuncData} (F : Fun K "_law_draws" "_law_draws" s_law_draws f fd) (z_len : mg "len" = none) (z_range : mg "range" = none) (z_int : mg "int" = none) (z_abs : mg "abs" = none) : FnOk P w K mg base CX0 1 f fd ["script", "many"] (liftSpS K 1 sp_draws) :=
  def_okS (k := 0) (m := rd_law_draws) F sc_law_draws (by decide) (fun cdv A outer s H E c hr =>
    have hu := hr.units
    have nd := sc_law_draws.nd
    (dss_cons (sown 2 nd da_nil)
    (dss_cons (sset 3 nd de_int)
    (dss_cons (ds_for PassesOwn.never rfl (di_range1 (by rfl) z_range (da_cons (de_lenS 0 z_len) da_nil)) (gn 4 nd) (dss_cons (sset 5 nd (de_abs (by rfl) z_abs (da_cons (de_int1 (by rfl) z_int (da_cons (de_ixS 0 (nv 4)) da_nil)) da_nil)))
    (dss_cons (sset 3 nd (de_mod (de_int1 (by rfl) z_int (da_cons (de_add (de_add (de_mul (nv 3) de_int) (de_mod (nv 5) de_int)) (nv 4)) da_nil)) de_int))
    (dss_cons (sset 6 nd de_int)
    (dss_cons (ds_if (dt_ge (nv 5) (de_pow de_int de_int)) (dss_one (sset 6 nd (nv 5))) (dss_cons (sapp 2 (de_mod (de_int1 (by rfl) z_int (da_cons (nv 5) da_nil)) de_int))
    (dss_one (sapp 2 (de_mod (de_mod (de_int1 (by rfl) z_int (da_cons (de_add (de_mul (nv 3) de_int) de_int) da_nil)) de_int) de_int)))))
    (dss_one (ds_for PassesOwn.never rfl (di_range1 (by rfl) z_range (da_cons de_int da_nil)) (gn 7 nd) (dss_one (ds_if (dt_gt (nv 6) de_int) (dss_cons (sapp 2 (de_mod (de_int1 (by rfl) z_int (da_cons (nv 6) da_nil)) de_int))
    (dss_one (sset 6 nd (de_fdiv (nv 6) de_int)))) dss_nil)))))))))
    (dss_cons (ds_for PassesOwn.never rfl (di_range1 (by rfl) z_range (da_cons (nv 1) da_nil)) (gn 4 nd) (dss_cons (sset 3 nd (de_mod (de_int1 (by rfl) z_int (da_cons (de_add (de_add (de_mul (nv 3) de_int) (nv 4)) de_int) da_nil)) de_int))
    (dss_one (sapp 2 (de_mod (de_int1 (by rfl) z_int (da_cons (nv 3) da_nil)) de_int)))))
    (dss_one (ds_frz 2 (ds_ret (de_slice (nv 2) do_none (do_some (nv 1))))))))))) (fun ns ds R _ h63 h => ok_law_draws ns ds R h63 h)
abbrev s_law_next : Stmt := top 9
theorem sc_law_next : FnScope ["w", "many"] ["w", "many"] (defScope s_law_next) := ⟨rfl, rfl, rfl, by decide +kernel, rfl, by decide +kernel, by decide +kernel⟩
theorem fn_law_next {f : Addr} {fd : FuncData} (F : Fun K "_law_next" "_law_next" s_law_next f fd) (z_len : mg "len" = none) (z_int : mg "int" = none) : FnOk P w K mg base CX0 1 f fd ["w", "many"] (liftSpW K 1 sp_next) := by
  refine F.ok sc_law_next (fun vs H Q E h => ?_) (fun cdv A outer s H vs Q E hr h => ?_)
  · obtain ⟨_, _, _, _, _, rfl, h, _⟩ := h
    rw [List.length_cons, h]
    rfl
  obtain ⟨p, us, F0, ds, R, rfl, hl, hF, hn, hw, rv, hsp, kk⟩ := h
  have hu := hu_of hr
  obtain ⟨n, ns, h1, h2, h0, hns⟩ := hw
  have npd : p.1 ≠ p.2 := ne_of h1 h2 (by intro z; cases z)
  unfold sp_next at hsp
  split at hsp
  · rename_i many
    obtain ⟨v, rfl, r1⟩ := rv.one
    cases r1
    obtain ⟨m0, hsp⟩ := hsp
    have fin : ∀ (r : Int), 0 ≤ r → r < many → r < 997 → Q (.int r) (upd H p.1 (.dK [(.inr "draws", .ref p.2), (.inr "at", .int (n + 1))])) := fun r a b c => by
      refine kk _ (hsp r a b c) (.int r) F0 _ ⟨fun _ _ e => e, fun b o e => ?_, fun b o e nb => ?_, fun _ _ e z => (nomatch e.symm.trans z), fun q e => ?_⟩ (.int _)
      · rw [upd_ne (fun z => by subst z; rw [hn] at e; cases e)]; exact hF _ _ e
      · rw [upd_ne (fun z => nb ⟨p.2, by rw [z]⟩)]; exact e
      · cases e
        exact ⟨n + 1, ns, upd_same, by rw [upd_ne npd.symm]; exact h2, by omega, hns⟩
    refine ⟨_, pss_cons (ps_daug hu (pv 0) pe_str pe_int in_add (fun _ _ _ => rfl))
      (pss_cons (ps_if (pt_cmpR op_gt (pe_dget hu (pv 0) pe_str (fun _ _ => rfl)) (pe_callB call_len_seq rfl z_len PySem.boot_len (pa_cons (pe_dget hu (pv 0) pe_str (fun _ _ => rfl)) pa_nil)) (nomark _)) (pss_one (ps_ret pe_int)) pss_nil)
      (pss_one (ps_ret (pe_op op_mod (pe_callTy call_int1 rfl z_int boot_int (pa_cons (pe_ix ix_list (pe_dget hu (pv 0) pe_str (fun _ _ => rfl)) (pe_op op_sub (pe_dget hu (pv 0) pe_str (fun _ _ => rfl)) pe_int) (fun _ _ => rfl)) pa_nil)) (pv 1))))), ?_⟩
    have g1 : DGet H p.1 (.str "at") (some (.int n)) := DGet.k (k := .inr "at") h1
    have hH : putK [((.inr "draws" : Key), V.ref p.2), (.inr "at", .int n)] (.inr "at") (.int (n + 1)) = [(.inr "draws", .ref p.2), (.inr "at", .int (n + 1))] := rfl
    have hp : DPut H p.1 (.str "at") (.int (n + 1)) (upd H p.1 (.dK [(.inr "draws", .ref p.2), (.inr "at", .int (n + 1))])) := hH ▸ DPut.k (k := .inr "at") h1 (by show 2 < sizeLine; decide)
    generalize hH' : upd H p.1 (.dK [(.inr "draws", .ref p.2), (.inr "at", .int (n + 1))]) = H' at fin hp
    have e1 : H' p.1 = some (.dK [(.inr "draws", .ref p.2), (.inr "at", .int (n + 1))]) := by rw [← hH']; exact upd_same
    have e2 : H' p.2 = some (.lst (ns.map V.int)) := by rw [← hH', upd_ne npd.symm]; exact h2
    have ga : DGet H' p.1 (.str "at") (some (.int (n + 1))) := DGet.k (k := .inr "at") e1
    have gd : DGet H' p.1 (.str "draws") (some (.ref p.2)) := DGet.k (k := .inr "draws") e1
    refine ⟨_, rfl, p.1, _, rfl, g1, _, _, rfl, rfl, _, hp, ?_⟩
    refine ⟨_, rfl, p.1, _, rfl, ga, _, rfl, p.1, _, rfl, gd, p.2, _, rfl, .inl (SqL.of e2), _, _, rfl, rfl, ?_⟩
    have el : ((ns.map V.int).length : Int) = (ns.length : Int) := by rw [List.length_map]
    rw [el]
    refine ⟨_, rfl, ?_⟩
    refine ite2 (fun c => ?_) (fun c => ?_)
    · exact fin 0 (Int.le_refl 0) m0 (by decide)
    · have c' : ¬ (n + 1 > (ns.length : Int)) := of_decide_eq_false (Bool.eq_false_iff.mpr c)
      have hk : n.toNat < ns.length := by omega
      have ek : n + 1 - 1 = ((n.toNat : Nat) : Int) := by omega
      have q : atI (ns.map V.int) (n + 1 - 1) = some (.int ns[n.toNat]) := by
        rw [ek]; exact atI_nat (by rw [List.getElem?_map, List.getElem?_eq_getElem hk]; rfl)
      have hr := hns _ (List.getElem_mem hk)
      refine ⟨_, rfl, p.1, _, rfl, gd, _, rfl, p.1, _, rfl, ga, _, _, rfl, rfl, p.2, _, _, _, rfl, rfl, SqL.of e2, q, .inl ⟨_, rfl, _, rfl, ?_⟩⟩
      refine ⟨_, _, rfl, rfl, m0, ?_⟩
      exact fin _ (Int.emod_nonneg _ (by omega)) (Int.emod_lt_of_pos _ m0) (by
        by_cases z : ns[n.toNat] < many
        · rw [Int.emod_eq_of_lt hr.1 z]; exact hr.2
        · exact Int.lt_trans (Int.lt_of_lt_of_le (Int.emod_lt_of_pos _ m0) (Int.not_lt.mp z)) hr.2)
  · exact hsp.elim
abbrev s_law_pick : Stmt := top 10
theorem sc_law_pick : FnScope ["w", "rows"] ["w", "rows"] (defScope s_law_pick) := ⟨rfl, rfl, rfl, by decide +kernel, rfl, by decide +kernel, by decide +kernel⟩
theorem fn_law_pick {f : Addr} {fd : FuncData} (F : Fun K "_law_pick" "_law_pick" s_law_pick f fd) (z_len : mg "len" = none) (h_law_next : Has P w K mg base 1 "_law_next" ["w", "many"] (liftSpW K 1 sp_next)) : FnOk P w K mg base CX0 2 f fd ["w", "rows"] (liftSpW K 1 sp_law_pick) :=
  def_okW (k := 1) (m := rd_law_pick) F sc_law_pick (by decide) (fun cdv A outer s H E c hr =>
    have hu := hr.units
    have nd := sc_law_pick.nd
    (dss_one (ds_ret (de_ix (nv 1) (kallW 0 h_law_next hr (da_cons (de_len (by rfl) z_len (da_cons (nv 1) da_nil)) da_nil)))))) (fun ds R _ h => ok_law_pick ds R h)
abbrev s_law_d : Stmt := top 18
theorem sc_law_d : FnScope ["w"] ["w"] (defScope s_law_d) := ⟨rfl, rfl, rfl, by decide +kernel, rfl, by decide +kernel, by decide +kernel⟩
theorem fn_law_d {f : Addr} {fd : FuncData} (F : Fun K "_law_d" "_law_d" s_law_d f fd) (h_law_pick : Has P w K mg base 2 "_law_pick" ["w", "rows"] (liftSpW K 1 sp_law_pick)) : FnOk P w K mg base CX0 3 f fd ["w"] (liftSpW K 0 sp_law_d) :=
  def_okW (k := 2) (m := rd_law_d) F sc_law_d (by decide) (fun cdv A outer s H E c hr =>
    have hu := hr.units
    have nd := sc_law_d.nd
    (dss_one (ds_ret (kallW 0 h_law_pick hr (da_cons (de_lst (da_cons (de_neg de_int) (da_cons (de_neg de_int) (da_cons (de_neg de_int) (da_cons (de_neg de_int) (da_cons (de_neg de_int) (da_cons (de_neg de_int) (da_cons (de_neg de_int) (da_cons (de_neg de_int) (da_cons (de_neg de_int) (da_cons (de_neg de_int) (da_cons (de_neg de_int) (da_cons (de_neg de_int) (da_cons (de_neg de_int) (da_cons (de_neg de_int) (da_cons (de_neg de_int) (da_cons (de_neg de_int) (da_cons (de_neg de_int) (da_cons (de_neg de_int) (da_cons (de_neg de_int) (da_cons (de_neg de_int) (da_cons (de_neg de_int) (da_cons (de_neg de_int) (da_cons (de_neg de_int) (da_cons (de_neg de_int) (da_cons (de_neg de_int) (da_cons (de_neg de_int) (da_cons (de_neg de_int) (da_cons (de_neg de_int) (da_cons (de_neg de_int) (da_cons (de_neg de_int) (da_cons (de_neg de_int) (da_cons (de_neg de_int) (da_cons (de_neg de_int) (da_cons (de_neg de_int) (da_cons (de_neg de_int) (da_cons (de_neg de_int) (da_cons (de_neg de_int) (da_cons (de_neg de_int) (da_cons (de_neg de_int) (da_cons (de_neg de_int) (da_cons (de_neg de_int) (da_cons (de_neg de_int) (da_cons (de_neg de_int) (da_cons (de_neg de_int) (da_cons (de_neg de_int) da_nil)))))))))))))))))))))))))))))))))))))))))))))) da_nil))))) (fun ds R _ h => ok_law_d ds R h)
abbrev s_law_common : Stmt := top 12
theorem sc_law_common : FnScope ["a", "b"] ["a", "b"] (defScope s_law_common) := ⟨rfl, rfl, rfl, by decide +kernel, rfl, by decide +kernel, by decide +kernel⟩
theorem fn_law_common {f : Addr} {fd : FuncData} (F : Fun K "_law_common" "_law_common" s_law_common f fd) (z_abs : mg "abs" = none) (z_int : mg "int" = none) : FnOk P w K mg base CX0 1 f fd ["a", "b"] (liftSp K 2 sp_law_common_v1) :=
  def_ok (k := 0) (m := rd_law_common_v1) F sc_law_common (fun cdv A outer s H E c hr =>
    have hu := hr.units
    have nd := sc_law_common.nd
    (dss_cons (spar 0 1 nd (da_cons (de_abs (by rfl) z_abs (da_cons (nv 0) da_nil)) (da_cons (de_abs (by rfl) z_abs (da_cons (nv 1) da_nil)) da_nil)))
    (dss_cons (ds_while PassesOwn.never (dt_ne (hu) (nv 1) de_int) (dss_one (spar 0 1 nd (da_cons (nv 1) (da_cons (de_mod (de_int1 (by rfl) z_int (da_cons (nv 0) da_nil)) (nv 1)) da_nil)))))
    (dss_one (ds_ret (nv 0)))))) (fun ds R _ h => ok_law_common_v1 ds R h)
abbrev s_law_all : Stmt := top 15
theorem sc_law_all : FnScope ["d", "found", "a", "b", "c"] ["d"] (defScope s_law_all) := ⟨rfl, rfl, rfl, by decide +kernel, rfl, by decide +kernel, by decide +kernel⟩
theorem fn_law_all {f : Addr} {fd : FuncData} (F : Fun K "_law_all" "_law_all" s_law_all f fd) (z_range : mg "range" = none) (z_int : mg "int" = none) (z_sorted : mg "sorted" = none) (h_law_common : Has P w K mg base 1 "_law_common" ["a", "b"] (liftSp K 2 sp_law_common_v1)) : FnOk P w K mg base CX0 2 f fd ["d"] (liftSp K 1 sp_law_all) :=
  def_ok (k := 1) (m := rd_law_all) F sc_law_all (fun cdv A outer s H E c hr =>
    have hu := hr.units
    have nd := sc_law_all.nd
    (dss_cons (sown 1 nd da_nil)
    (dss_cons (sset 2 nd de_int)
    (dss_cons (ds_while PassesOwn.never (dt_le (de_mul (de_mul de_int (nv 2)) (nv 2)) (de_neg (nv 0))) (dss_cons (ds_for PassesOwn.never rfl (di_range2 (by rfl) z_range (da_cons (de_add (de_neg (nv 2)) de_int) (da_cons (de_add (nv 2) de_int) da_nil))) (gn 3 nd) (dss_one (ds_if (dt_eq (hu) (de_mod (de_int1 (by rfl) z_int (da_cons (de_sub (de_mul (nv 3) (nv 3)) (nv 0)) da_nil)) (de_mul de_int (nv 2))) de_int) (dss_cons (sset 4 nd (de_fdiv (de_sub (de_mul (nv 3) (nv 3)) (nv 0)) (de_mul de_int (nv 2))))
    (dss_one (ds_if (dw_and (dt_ge (nv 4) (nv 2)) (dw_and (dw_or (dt_ge (nv 3) de_int) (dw_or1 (dt_ne (hu) (nv 2) (nv 4)))).dt (dw_and1 (dt_eq (hu) (kall h_law_common hr (da_cons (kall h_law_common hr (da_cons (nv 2) (da_cons (nv 3) da_nil))) (da_cons (nv 4) da_nil))) de_int)))).dt (dss_one (sapp 1 (de_tup (da_cons (nv 2) (da_cons (nv 3) (da_cons (nv 4) da_nil)))))) dss_nil))) dss_nil)))
    (dss_one (saug 2 ip_add nd de_int))))
    (dss_one (ds_frz 1 (ds_ret (de_sortedT z_sorted (da_cons (nv 1) da_nil))))))))) (fun ds R _ h => ok_law_all ds R h)
abbrev s_law_below_nothing : Stmt := top 13
theorem sc_law_below_nothing : FnScope ["form"] ["form"] (defScope s_law_below_nothing) := ⟨rfl, rfl, rfl, by decide +kernel, rfl, by decide +kernel, by decide +kernel⟩
theorem fn_law_below_nothing {f : Addr} {fd : FuncData} (F : Fun K "_law_below_nothing" "_law_below_nothing" s_law_below_nothing f fd) : FnOk P w K mg base CX0 1 f fd ["form"] (liftSp K 1 sp_law_below_nothing) :=
  def_ok (k := 0) (m := rd_law_below_nothing) F sc_law_below_nothing (fun cdv A outer s H E c hr =>
    have hu := hr.units
    have nd := sc_law_below_nothing.nd
    (dss_one (ds_ret (de_sub (de_mul (de_ix (nv 0) de_int) (de_ix (nv 0) de_int)) (de_mul (de_mul de_int (de_ix (nv 0) de_int)) (de_ix (nv 0) de_int)))))) (fun ds R _ h => ok_law_below_nothing ds R h)
abbrev s_law_changed : Stmt := top 16
theorem sc_law_changed : FnScope ["form", "turn", "a", "b", "c", "p", "q", "r", "s"] ["form", "turn"] (defScope s_law_changed) := ⟨rfl, rfl, rfl, by decide +kernel, rfl, by decide +kernel, by decide +kernel⟩
theorem fn_law_changed {f : Addr} {fd : FuncData} (F : Fun K "_law_changed" "_law_changed" s_law_changed f fd) : FnOk P w K mg base CX0 1 f fd ["form", "turn"] (liftSp K 2 sp_law_changed) :=
  def_ok (k := 0) (m := rd_law_changed) F sc_law_changed (fun cdv A outer s H E c hr =>
    have hu := hr.units
    have nd := sc_law_changed.nd
    (dss_cons (ds_asg (nv 0) (dg_tup (by rfl) (dgs_cons (gn 2 nd) (dgs_cons (gn 3 nd) (dgs_cons (gn 4 nd) dgs_nil)))))
    (dss_cons (ds_asg (nv 1) (dg_tup (by rfl) (dgs_cons (gn 5 nd) (dgs_cons (gn 6 nd) (dgs_cons (gn 7 nd) (dgs_cons (gn 8 nd) dgs_nil))))))
    (dss_one (ds_ret (de_tup (da_cons (de_add (de_add (de_mul (de_mul (nv 2) (nv 5)) (nv 5)) (de_mul (de_mul (nv 3) (nv 5)) (nv 7))) (de_mul (de_mul (nv 4) (nv 7)) (nv 7))) (da_cons (de_add (de_add (de_mul (de_mul (de_mul de_int (nv 2)) (nv 5)) (nv 6)) (de_mul (nv 3) (de_add (de_mul (nv 5) (nv 8)) (de_mul (nv 6) (nv 7))))) (de_mul (de_mul (de_mul de_int (nv 4)) (nv 7)) (nv 8))) (da_cons (de_add (de_add (de_mul (de_mul (nv 2) (nv 6)) (nv 6)) (de_mul (de_mul (nv 3) (nv 6)) (nv 8))) (de_mul (de_mul (nv 4) (nv 8)) (nv 8))) da_nil))))))))) (fun ds R _ h => ok_law_changed ds R h)
abbrev s_law_turn_far : Stmt := top 21
theorem sc_law_turn_far : FnScope ["x", "y", "s"] ["x", "y"] (defScope s_law_turn_far) := ⟨rfl, rfl, rfl, by decide +kernel, rfl, by decide +kernel, by decide +kernel⟩
theorem fn_law_turn_far {f : Addr} {fd : FuncData} (F : Fun K "_law_turn_far" "_law_turn_far" s_law_turn_far f fd) (z_int : mg "int" = none) : FnOk P w K mg base CX0 1 f fd ["x", "y"] (liftSp K 2 sp_law_turn_far) :=
  def_ok (k := 0) (m := rd_law_turn_far) F sc_law_turn_far (fun cdv A outer s H E c hr =>
    have hu := hr.units
    have nd := sc_law_turn_far.nd
    (dss_cons (sset 2 nd de_int)
    (dss_cons (ds_while PassesOwn.never (dt_ne (hu) (de_mod (de_int1 (by rfl) z_int (da_cons (de_sub (de_mul (nv 0) (nv 2)) de_int) da_nil)) (nv 1)) de_int) (dss_one (saug 2 ip_add nd de_int)))
    (dss_one (ds_ret (de_tup (da_cons (nv 0) (da_cons (de_fdiv (de_sub (de_mul (nv 0) (nv 2)) de_int) (nv 1)) (da_cons (nv 1) (da_cons (nv 2) da_nil)))))))))) (fun ds R _ h => ok_law_turn_far ds R h)
abbrev s_law_turn_to : Stmt := top 20
theorem sc_law_turn_to : FnScope ["x", "y", "s"] ["x", "y"] (defScope s_law_turn_to) := ⟨rfl, rfl, rfl, by decide +kernel, rfl, by decide +kernel, by decide +kernel⟩
theorem fn_law_turn_to {f : Addr} {fd : FuncData} (F : Fun K "_law_turn_to" "_law_turn_to" s_law_turn_to f fd) (z_abs : mg "abs" = none) (z_range : mg "range" = none) (z_int : mg "int" = none) (h_law_turn_far : Has P w K mg base 1 "_law_turn_far" ["x", "y"] (liftSp K 2 sp_law_turn_far)) : FnOk P w K mg base CX0 2 f fd ["x", "y"] (liftSp K 2 sp_law_turn_to) :=
  def_ok (k := 1) (m := rd_law_turn_to) F sc_law_turn_to (fun cdv A outer s H E c hr =>
    have hu := hr.units
    have nd := sc_law_turn_to.nd
    (dss_cons (ds_for PassesOwn.never rfl (di_range2 (by rfl) z_range (da_cons (de_sub (de_neg (de_abs (by rfl) z_abs (da_cons (nv 0) da_nil))) de_int) (da_cons (de_add (de_abs (by rfl) z_abs (da_cons (nv 0) da_nil)) de_int) da_nil))) (gn 2 nd) (dss_cons (ds_if (dw_and (dt_eq (hu) (nv 1) de_int) (dw_and1 (dt_eq (hu) (de_mul (nv 0) (nv 2)) de_int))).dt (dss_one (ds_ret (de_tup (da_cons (nv 0) (da_cons de_int (da_cons de_int (da_cons (nv 2) da_nil))))))) dss_nil)
    (dss_one (ds_if (dw_and (dt_ne (hu) (nv 1) de_int) (dw_and1 (dt_eq (hu) (de_mod (de_int1 (by rfl) z_int (da_cons (de_sub (de_mul (nv 0) (nv 2)) de_int) da_nil)) (nv 1)) de_int))).dt (dss_one (ds_ret (de_tup (da_cons (nv 0) (da_cons (de_fdiv (de_sub (de_mul (nv 0) (nv 2)) de_int) (nv 1)) (da_cons (nv 1) (da_cons (nv 2) da_nil))))))) dss_nil))))
    (dss_cons (ds_if (dt_eq (hu) (nv 1) de_int) (dss_one (ds_ret (de_tup (da_cons (nv 0) (da_cons (de_neg de_int) (da_cons de_int (da_cons de_int da_nil))))))) dss_nil)
    (dss_one (ds_ret (kall h_law_turn_far hr (da_cons (nv 0) (da_cons (nv 1) da_nil)))))))) (fun ds R _ h => ok_law_turn_to ds R h)
abbrev s_law_prime_to : Stmt := top 19
theorem sc_law_prime_to : FnScope ["form", "a", "size", "x", "y", "m"] ["form", "a"] (defScope s_law_prime_to) := ⟨rfl, rfl, rfl, by decide +kernel, rfl, by decide +kernel, by decide +kernel⟩
theorem fn_law_prime_to {f : Addr} {fd : FuncData} (F : Fun K "_law_prime_to" "_law_prime_to" s_law_prime_to f fd) (z_range : mg "range" = none) (z_abs : mg "abs" = none) (z_max : mg "max" = none) (h_law_common : Has P w K mg base 1 "_law_common" ["a", "b"] (liftSp K 2 sp_law_common_v1)) (h_law_changed : Has P w K mg base 1 "_law_changed" ["form", "turn"] (liftSp K 2 sp_law_changed)) (h_law_turn_to : Has P w K mg base 2 "_law_turn_to" ["x", "y"] (liftSp K 2 sp_law_turn_to)) : FnOk P w K mg base CX0 3 f fd ["form", "a"] (liftSp K 2 sp_law_prime_to) :=
  def_ok (k := 2) (m := rd_law_prime_to) F sc_law_prime_to (fun cdv A outer s H E c hr =>
    have hu := hr.units
    have nd := sc_law_prime_to.nd
    (dss_cons (ds_for PassesOwn.never rfl (di_range2 (by rfl) z_range (da_cons de_int (da_cons de_int da_nil))) (gn 2 nd) (dss_one (ds_for PassesOwn.never rfl (di_range2 (by rfl) z_range (da_cons (de_neg (nv 2)) (da_cons (de_add (nv 2) de_int) da_nil))) (gn 3 nd) (dss_one (ds_for PassesOwn.never rfl (di_range1 (by rfl) z_range (da_cons (de_add (nv 2) de_int) da_nil)) (gn 4 nd) (dss_cons (sset 5 nd (de_add (de_add (de_mul (de_mul (de_ix (nv 0) de_int) (nv 3)) (nv 3)) (de_mul (de_mul (de_ix (nv 0) de_int) (nv 3)) (nv 4))) (de_mul (de_mul (de_ix (nv 0) de_int) (nv 4)) (nv 4))))
    (dss_one (ds_if (dw_and (dt_eq (hu) (de_max2 (by rfl) (by rfl) z_max (da_cons (de_abs (by rfl) z_abs (da_cons (nv 3) da_nil)) (da_cons (nv 4) da_nil))) (nv 2)) (dw_and (dt_gt (nv 5) de_int) (dw_and (dt_eq (hu) (kall h_law_common hr (da_cons (nv 3) (da_cons (nv 4) da_nil))) de_int) (dw_and1 (dt_eq (hu) (kall h_law_common hr (da_cons (nv 5) (da_cons (nv 1) da_nil))) de_int))))).dt (dss_one (ds_ret (kall h_law_changed hr (da_cons (nv 0) (da_cons (kall h_law_turn_to hr (da_cons (nv 3) (da_cons (nv 4) da_nil))) da_nil))))) dss_nil))))))))
    (dss_one (ds_ret (nv 0))))) (fun ds R _ h => ok_law_prime_to ds R h)
abbrev s_law_least : Stmt := top 14
theorem sc_law_least : FnScope ["form", "a", "b", "c", "k"] ["form"] (defScope s_law_least) := ⟨rfl, rfl, rfl, by decide +kernel, rfl, by decide +kernel, by decide +kernel⟩
theorem fn_law_least {f : Addr} {fd : FuncData} (F : Fun K "_law_least" "_law_least" s_law_least f fd) : FnOk P w K mg base CX0 1 f fd ["form"] (liftSp K 1 sp_law_least) :=
  def_ok (k := 0) (m := rd_law_least) F sc_law_least (fun cdv A outer s H E c hr =>
    have hu := hr.units
    have nd := sc_law_least.nd
    (dss_cons (ds_asg (nv 0) (dg_tup (by rfl) (dgs_cons (gn 1 nd) (dgs_cons (gn 2 nd) (dgs_cons (gn 3 nd) dgs_nil)))))
    (dss_one (ds_while PassesOwn.never (dt_val de_bl) (dss_cons (sset 4 nd (de_fdiv (de_sub (nv 1) (nv 2)) (de_mul de_int (nv 1))))
    (dss_cons (spar3 1 2 3 nd (da_cons (nv 1) (da_cons (de_add (nv 2) (de_mul (de_mul de_int (nv 1)) (nv 4))) (da_cons (de_add (de_add (de_mul (de_mul (nv 1) (nv 4)) (nv 4)) (de_mul (nv 2) (nv 4))) (nv 3)) da_nil))))
    (dss_cons (ds_if (dw_or (dt_lt (nv 1) (nv 3)) (dw_or1 (dw_and (dt_eq (hu) (nv 1) (nv 3)) (dw_and1 (dt_ge (nv 2) de_int))).dt)).dt (dss_one (ds_ret (de_tup (da_cons (nv 1) (da_cons (nv 2) (da_cons (nv 3) da_nil)))))) dss_nil)
    (dss_one (spar3 1 2 3 nd (da_cons (nv 3) (da_cons (de_neg (nv 2)) (da_cons (nv 1) da_nil)))))))))))) (fun ds R _ h => ok_law_least ds R h)
abbrev s_law_joined : Stmt := top 22
theorem sc_law_joined : FnScope ["one", "other", "d", "a", "b", "c", "m", "e", "f"] ["one", "other"] (defScope s_law_joined) := ⟨rfl, rfl, rfl, by decide +kernel, rfl, by decide +kernel, by decide +kernel⟩
theorem fn_law_joined {f : Addr} {fd : FuncData} (F : Fun K "_law_joined" "_law_joined" s_law_joined f fd) (z_int : mg "int" = none) (h_law_below_nothing : Has P w K mg base 1 "_law_below_nothing" ["form"] (liftSp K 1 sp_law_below_nothing)) (h_law_prime_to : Has P w K mg base 3 "_law_prime_to" ["form", "a"] (liftSp K 2 sp_law_prime_to)) (h_law_least : Has P w K mg base 1 "_law_least" ["form"] (liftSp K 1 sp_law_least)) : FnOk P w K mg base CX0 4 f fd ["one", "other"] (liftSp K 2 sp_law_joined) :=
  def_ok (k := 3) (m := rd_law_joined) F sc_law_joined (fun cdv A outer s H E c hr =>
    have hu := hr.units
    have nd := sc_law_joined.nd
    (dss_cons (sset 2 nd (kall h_law_below_nothing hr (da_cons (nv 0) da_nil)))
    (dss_cons (ds_asg (nv 0) (dg_tup (by rfl) (dgs_cons (gn 3 nd) (dgs_cons (gn 4 nd) (dgs_cons (gn 5 nd) dgs_nil)))))
    (dss_cons (ds_asg (kall h_law_prime_to hr (da_cons (nv 1) (da_cons (nv 3) da_nil))) (dg_tup (by rfl) (dgs_cons (gn 6 nd) (dgs_cons (gn 7 nd) (dgs_cons (gn 8 nd) dgs_nil)))))
    (dss_cons (ds_while PassesOwn.never (dt_ne (hu) (de_mod (de_int1 (by rfl) z_int (da_cons (de_sub (nv 4) (nv 7)) da_nil)) (de_mul de_int (nv 6))) de_int) (dss_one (saug 4 ip_add nd (de_mul de_int (nv 3)))))
    (dss_one (ds_ret (kall h_law_least hr (da_cons (de_tup (da_cons (de_mul (nv 3) (nv 6)) (da_cons (nv 4) (da_cons (de_fdiv (de_sub (de_mul (nv 4) (nv 4)) (nv 2)) (de_mul (de_mul de_int (nv 3)) (nv 6))) da_nil)))) da_nil))))))))) (fun ds R _ h => ok_law_joined ds R h)
abbrev s_law_alike : Stmt := top 11
theorem sc_law_alike : FnScope ["told", "due", "k"] ["told", "due"] (defScope s_law_alike) := ⟨rfl, rfl, rfl, by decide +kernel, rfl, by decide +kernel, by decide +kernel⟩
theorem fn_law_alike {f : Addr} {fd : FuncData} (F : Fun K "_law_alike" "_law_alike" s_law_alike f fd) (bd : Binds K fd ["told", "due"] []) (m_ : mg "_law_alike" = some (.ref f)) (kp : PySem.W.keepIn K (.ref f) = true) (z_isinstance : mg "isinstance" = none) (z_tuple : mg "tuple" = none) (z_len : mg "len" = none) (z_range : mg "range" = none) (z_bool : mg "bool" = none) (z_int : mg "int" = none) (z_str : mg "str" = none) : ∀ n : Nat, FnOk P w K mg base CX0 (0 + n) f fd ["told", "due"] (liftSp K 2 (spn_law_alike n))
  | 0 => by
    have no : ∀ vs H Q E, ¬ liftSp K 2 (spn_law_alike 0) vs H Q E := fun vs H Q E h => by
      obtain ⟨F0, ds, R, _, _, _, h, _⟩ := h
      exact no_law_alike ds R h
    exact ⟨fun vs H Q E h => absurd h (no vs H Q E), fun A outer s H args us vs Q E _ _ _ _ h => absurd h (no vs H Q E)⟩
  | n + 1 =>
    have h_law_alike : Has P w K mg base (0 + n) "_law_alike" ["told", "due"] (liftSp K 2 (spn_law_alike n)) := ⟨f, fd, fn_law_alike F bd m_ kp z_isinstance z_tuple z_len z_range z_bool z_int z_str n, m_, kp, bd⟩
    def_ok (k := 0 + n) (m := rd_law_alike (spn_law_alike n)) F sc_law_alike (fun cdv A outer s H E c hr =>
    have hu := hr.units
    have nd := sc_law_alike.nd
    (dss_cons (ds_if (dt_val (de_isi tells_tuple (by rfl) z_isinstance (by rfl) z_tuple boot_tuple (nv 1))) (dss_cons (ds_if (dw_or (dt_not (dt_val (de_isi tells_tuple (by rfl) z_isinstance (by rfl) z_tuple boot_tuple (nv 0)))) (dw_or1 (dt_ne (hu) (de_len (by rfl) z_len (da_cons (nv 0) da_nil)) (de_len (by rfl) z_len (da_cons (nv 1) da_nil))))).dt (dss_one (ds_ret de_bl)) dss_nil)
    (dss_one (ds_ret (de_eq (hu) (de_lc (own := [("k", 2)]) rfl nd (di_range1 (by rfl) z_range (da_cons (de_len (by rfl) z_len (da_cons (nv 1) da_nil)) da_nil)) (blkOk_by (by kernel_rfl)) (fun _ _ _ _ _ => (gn 2 nd)) (fun _ _ _ _ _ => (dts_one (dt_not (dt_val (kall h_law_alike hr (da_cons (de_ix (nv 0) (nv 2)) (da_cons (de_ix (nv 1) (nv 2)) da_nil)) (by omega)))))) (fun _ _ _ _ _ => (nv 2))) (de_lst da_nil))))) dss_nil)
    (dss_cons (ds_if (dt_is (nv 1) de_non) (dss_one (ds_ret (de_is (nv 0) de_non))) dss_nil)
    (dss_cons (ds_if (dt_val (de_isi tells_bool (by rfl) z_isinstance (by rfl) z_bool boot_bool (nv 1))) (dss_one (ds_ret (de_and (de_isi tells_bool (by rfl) z_isinstance (by rfl) z_bool boot_bool (nv 0)) (de_one (de_eq (hu) (nv 0) (nv 1)))))) dss_nil)
    (dss_cons (ds_if (dt_val (de_isi tells_int (by rfl) z_isinstance (by rfl) z_int boot_int (nv 1))) (dss_one (ds_ret (de_and (de_isi tells_int (by rfl) z_isinstance (by rfl) z_int boot_int (nv 0)) (de_and (de_not (de_isi tells_bool (by rfl) z_isinstance (by rfl) z_bool boot_bool (nv 0))) (de_one (de_eq (hu) (nv 0) (nv 1))))))) dss_nil)
    (dss_one (ds_ret (de_and (de_isi tells_str (by rfl) z_isinstance (by rfl) z_str boot_str (nv 0)) (de_one (de_eq (hu) (nv 0) (nv 1))))))))))) (fun ds R _ h => ok_law_alike n ds R h)
abbrev s_size_of_two : Stmt := top 3
theorem sc_size_of_two : FnScope ["form", "a", "b", "c"] ["form"] (defScope s_size_of_two) := ⟨rfl, rfl, rfl, by decide +kernel, rfl, by decide +kernel, by decide +kernel⟩
theorem fn_size_of_two {f : Addr} {fd : FuncData} (F : Fun K "size_of_two" "size_of_two" s_size_of_two f fd) : FnOk P w K mg base CX0 1 f fd ["form"] (liftSp K 1 sp_size_of_two) :=
  def_ok (k := 0) (m := rd_size_of_two) F sc_size_of_two (fun cdv A outer s H E c hr =>
    have hu := hr.units
    have nd := sc_size_of_two.nd
    (dss_cons (ds_asg (nv 0) (dg_tup (by rfl) (dgs_cons (gn 1 nd) (dgs_cons (gn 2 nd) (dgs_cons (gn 3 nd) dgs_nil)))))
    (dss_one (ds_ret (de_sub (de_mul (nv 2) (nv 2)) (de_mul (de_mul de_int (nv 1)) (nv 3))))))) (fun ds R _ h => ok_size_of_two ds R h)
abbrev s_split : Stmt := top 1
theorem sc_split : FnScope ["a", "b", "x", "y", "z", "w", "c", "d", "by"] ["a", "b"] (defScope s_split) := ⟨rfl, rfl, rfl, by decide +kernel, rfl, by decide +kernel, by decide +kernel⟩
theorem fn_split {f : Addr} {fd : FuncData} (F : Fun K "split" "split" s_split f fd) : FnOk P w K mg base CX0 1 f fd ["a", "b"] (liftSp K 2 sp_split) :=
  def_ok (k := 0) (m := rd_split) F sc_split (fun cdv A outer s H E c hr =>
    have hu := hr.units
    have nd := sc_split.nd
    (dss_cons (ds_asg (de_tup (da_cons de_int (da_cons de_int (da_cons de_int (da_cons de_int da_nil))))) (dg_tup (by rfl) (dgs_cons (gn 2 nd) (dgs_cons (gn 3 nd) (dgs_cons (gn 4 nd) (dgs_cons (gn 5 nd) dgs_nil))))))
    (dss_cons (spar 6 7 nd (da_cons (nv 0) (da_cons (nv 1) da_nil)))
    (dss_cons (ds_while PassesOwn.never (dt_ne (hu) (nv 7) de_int) (dss_cons (sset 8 nd (de_fdiv (nv 6) (nv 7)))
    (dss_cons (spar 6 7 nd (da_cons (nv 7) (da_cons (de_sub (nv 6) (de_mul (nv 8) (nv 7))) da_nil)))
    (dss_cons (spar 2 4 nd (da_cons (nv 4) (da_cons (de_sub (nv 2) (de_mul (nv 8) (nv 4))) da_nil)))
    (dss_one (spar 3 5 nd (da_cons (nv 5) (da_cons (de_sub (nv 3) (de_mul (nv 8) (nv 5))) da_nil))))))))
    (dss_one (ds_ret (de_if (dt_ge (nv 6) de_int) (de_tup (da_cons (nv 6) (da_cons (nv 2) (da_cons (nv 3) da_nil)))) (de_tup (da_cons (de_neg (nv 6)) (da_cons (de_neg (nv 2)) (da_cons (de_neg (nv 3)) da_nil))))))))))) (fun ds R _ h => ok_split ds R h)
abbrev s_least_two : Stmt := top 4
theorem sc_least_two : FnScope ["form", "a", "b", "c", "by"] ["form"] (defScope s_least_two) := ⟨rfl, rfl, rfl, by decide +kernel, rfl, by decide +kernel, by decide +kernel⟩
theorem fn_least_two {f : Addr} {fd : FuncData} (F : Fun K "least_two" "least_two" s_least_two f fd) : FnOk P w K mg base CX0 1 f fd ["form"] (liftSp K 1 sp_least_two) :=
  def_ok (k := 0) (m := rd_least_two) F sc_least_two (fun cdv A outer s H E c hr =>
    have hu := hr.units
    have nd := sc_least_two.nd
    (dss_cons (ds_asg (nv 0) (dg_tup (by rfl) (dgs_cons (gn 1 nd) (dgs_cons (gn 2 nd) (dgs_cons (gn 3 nd) dgs_nil)))))
    (dss_cons (ds_while PassesOwn.never (dw_or (dt_not (dt_ch3 op_lt op_le op_le sv_lt sv_le sv_le (de_neg (nv 1)) (nv 2) (nv 1) (nv 3))) (dw_or1 (dw_and (dt_eq (hu) (nv 1) (nv 3)) (dw_and1 (dt_lt (nv 2) de_int))).dt)).dt (dss_one (ds_if (dt_not (dt_ch op_lt op_le sv_lt sv_le (de_neg (nv 1)) (nv 2) (nv 1))) (dss_cons (sset 4 nd (de_fdiv (de_sub (nv 1) (nv 2)) (de_mul de_int (nv 1))))
    (dss_cons (sset 3 nd (de_add (de_add (nv 3) (de_mul (nv 4) (nv 2))) (de_mul (de_mul (nv 4) (nv 4)) (nv 1))))
    (dss_one (sset 2 nd (de_add (nv 2) (de_mul (de_mul de_int (nv 4)) (nv 1))))))) (dss_one (spar3 1 2 3 nd (da_cons (nv 3) (da_cons (de_neg (nv 2)) (da_cons (nv 1) da_nil))))))))
    (dss_one (ds_ret (de_tup (da_cons (nv 1) (da_cons (nv 2) (da_cons (nv 3) da_nil))))))))) (fun ds R _ h => ok_least_two ds R h)
abbrev s_joined_two : Stmt := top 6
theorem sc_joined_two : FnScope ["one", "other", "a", "b", "c", "e", "f", "_", "d", "half", "m", "x", "n", "y", "w", "left", "first", "by", "middle", "whole"] ["one", "other"] (defScope s_joined_two) := ⟨rfl, rfl, rfl, by decide +kernel, rfl, by decide +kernel, by decide +kernel⟩
theorem fn_joined_two {f : Addr} {fd : FuncData} (F : Fun K "joined_two" "joined_two" s_joined_two f fd) (h_size_of_two : Has P w K mg base 1 "size_of_two" ["form"] (liftSp K 1 sp_size_of_two)) (h_split : Has P w K mg base 1 "split" ["a", "b"] (liftSp K 2 sp_split)) (h_least_two : Has P w K mg base 1 "least_two" ["form"] (liftSp K 1 sp_least_two)) : FnOk P w K mg base CX0 2 f fd ["one", "other"] (liftSp K 2 sp_joined_two) :=
  def_ok (k := 1) (m := rd_joined_two) F sc_joined_two (fun cdv A outer s H E c hr =>
    have hu := hr.units
    have nd := sc_joined_two.nd
    (dss_cons (ds_asg (de_tup (da_cons (nv 0) (da_cons (nv 1) da_nil))) (dg_tup (by rfl) (dgs_cons (dg_tup (by rfl) (dgs_cons (gn 2 nd) (dgs_cons (gn 3 nd) (dgs_cons (gn 4 nd) dgs_nil)))) (dgs_cons (dg_tup (by rfl) (dgs_cons (gn 5 nd) (dgs_cons (gn 6 nd) (dgs_cons (gn 7 nd) dgs_nil)))) dgs_nil))))
    (dss_cons (sset 8 nd (kall h_size_of_two hr (da_cons (nv 0) da_nil)))
    (dss_cons (sset 9 nd (de_fdiv (de_add (nv 3) (nv 6)) de_int))
    (dss_cons (ds_asg (kall h_split hr (da_cons (nv 2) (da_cons (nv 5) da_nil))) (dg_tup (by rfl) (dgs_cons (gn 10 nd) (dgs_cons (gn 11 nd) (dgs_cons (gn 7 nd) dgs_nil)))))
    (dss_cons (ds_asg (kall h_split hr (da_cons (nv 10) (da_cons (nv 9) da_nil))) (dg_tup (by rfl) (dgs_cons (gn 12 nd) (dgs_cons (gn 13 nd) (dgs_cons (gn 14 nd) dgs_nil)))))
    (dss_cons (sset 15 nd (de_fdiv (nv 5) (nv 12)))
    (dss_cons (sset 16 nd (de_fdiv (nv 2) (nv 12)))
    (dss_cons (sset 17 nd (de_mod (de_sub (de_mul (de_mul (nv 13) (nv 11)) (de_fdiv (de_sub (nv 6) (nv 3)) de_int)) (de_mul (nv 14) (nv 4))) (nv 15)))
    (dss_cons (sset 18 nd (de_add (nv 3) (de_mul (de_mul de_int (nv 16)) (nv 17))))
    (dss_cons (sset 19 nd (de_mul (nv 16) (nv 15)))
    (dss_one (ds_ret (kall h_least_two hr (da_cons (de_tup (da_cons (nv 19) (da_cons (nv 18) (da_cons (de_fdiv (de_sub (de_mul (nv 18) (nv 18)) (nv 8)) (de_mul de_int (nv 19))) da_nil)))) da_nil))))))))))))))) (fun ds R _ h => ok_joined_two ds R h)
abbrev s_law_drawn : Stmt := top 17
theorem sc_law_drawn : FnScope ["w", "form", "k"] ["w", "form"] (defScope s_law_drawn) := ⟨rfl, rfl, rfl, by decide +kernel, rfl, by decide +kernel, by decide +kernel⟩
theorem fn_law_drawn {f : Addr} {fd : FuncData} (F : Fun K "_law_drawn" "_law_drawn" s_law_drawn f fd) (z_range : mg "range" = none) (h_law_next : Has P w K mg base 1 "_law_next" ["w", "many"] (liftSpW K 1 sp_next)) (h_law_changed : Has P w K mg base 1 "_law_changed" ["form", "turn"] (liftSp K 2 sp_law_changed)) (h_law_pick : Has P w K mg base 2 "_law_pick" ["w", "rows"] (liftSpW K 1 sp_law_pick)) : FnOk P w K mg base CX0 3 f fd ["w", "form"] (liftSpW K 1 sp_law_drawn_v2) :=
  def_okW (k := 2) (m := rd_law_drawn_v2) F sc_law_drawn (by decide) (fun cdv A outer s H E c hr =>
    have hu := hr.units
    have nd := sc_law_drawn.nd
    (dss_cons (ds_for PassesOwn.never rfl (di_range1 (by rfl) z_range (da_cons (kallW 0 h_law_next hr (da_cons de_int da_nil)) da_nil)) (gn 2 nd) (dss_one (sset 1 nd (kall h_law_changed hr (da_cons (nv 1) (da_cons (kallW 0 h_law_pick hr (da_cons (de_lst (da_cons (de_tup (da_cons de_int (da_cons de_int (da_cons de_int (da_cons de_int da_nil))))) (da_cons (de_tup (da_cons de_int (da_cons (de_neg de_int) (da_cons de_int (da_cons de_int da_nil))))) (da_cons (de_tup (da_cons de_int (da_cons (de_neg de_int) (da_cons de_int (da_cons de_int da_nil))))) (da_cons (de_tup (da_cons de_int (da_cons de_int (da_cons de_int (da_cons de_int da_nil))))) (da_cons (de_tup (da_cons de_int (da_cons de_int (da_cons de_int (da_cons de_int da_nil))))) da_nil)))))) da_nil)) da_nil))))))
    (dss_one (ds_ret (nv 1))))) (fun ds R _ h => ok_law_drawn_v2 ds R h)
abbrev s_unit_two : Stmt := top 5
theorem sc_unit_two : FnScope ["d"] ["d"] (defScope s_unit_two) := ⟨rfl, rfl, rfl, by decide +kernel, rfl, by decide +kernel, by decide +kernel⟩
theorem fn_unit_two {f : Addr} {fd : FuncData} (F : Fun K "unit_two" "unit_two" s_unit_two f fd) : FnOk P w K mg base CX0 1 f fd ["d"] (liftSp K 1 sp_unit_two) :=
  def_ok (k := 0) (m := rd_unit_two) F sc_unit_two (fun cdv A outer s H E c hr =>
    have hu := hr.units
    have nd := sc_unit_two.nd
    (dss_one (ds_ret (de_if (dt_eq (hu) (de_mod (nv 0) de_int) de_int) (de_tup (da_cons de_int (da_cons de_int (da_cons (de_fdiv (de_neg (nv 0)) de_int) da_nil)))) (de_tup (da_cons de_int (da_cons de_int (da_cons (de_fdiv (de_sub de_int (nv 0)) de_int) da_nil)))))))) (fun ds R _ h => ok_unit_two ds R h)
abbrev s_law : Stmt := top 24
theorem sc_law : FnScope ["script", "w", "turn", "d", "every", "one", "other", "third", "due"] ["script"] (defScope s_law) := ⟨rfl, rfl, rfl, by decide +kernel, rfl, by decide +kernel, by decide +kernel⟩
theorem fn_law {f : Addr} {fd : FuncData} (F : Fun K "law" "law" s_law f fd) (z_range : mg "range" = none) (h_law_draws : Has P w K mg base 1 "_law_draws" ["script", "many"] (liftSpS K 1 sp_draws)) (h_law_d : Has P w K mg base 3 "_law_d" ["w"] (liftSpW K 0 sp_law_d)) (h_law_all : Has P w K mg base 2 "_law_all" ["d"] (liftSp K 1 sp_law_all)) (h_law_pick : Has P w K mg base 2 "_law_pick" ["w", "rows"] (liftSpW K 1 sp_law_pick)) (h_law_joined : Has P w K mg base 4 "_law_joined" ["one", "other"] (liftSp K 2 sp_law_joined)) (h_law_alike : Has P w K mg base 8 "_law_alike" ["told", "due"] (liftSp K 2 sp_law_alike)) (h_joined_two : Has P w K mg base 2 "joined_two" ["one", "other"] (liftSp K 2 sp_joined_two)) (h_law_drawn : Has P w K mg base 3 "_law_drawn" ["w", "form"] (liftSpW K 1 sp_law_drawn_v2)) (h_unit_two : Has P w K mg base 1 "unit_two" ["d"] (liftSp K 1 sp_unit_two)) : FnOk P w K mg base CX0 9 f fd ["script"] (spLaw K) := by
  obtain ⟨f1, fd1, G1, m1, k1, b1⟩ := h_law_draws
  exact law_ok (k := 8) (many := 300) (m := rd_law_k55) F sc_law (by decide) (by decide) rfl (fun cdv A outer s H E hr => ps_set (i := 1) sc_law.nd rfl (by first | exact Or.inl rfl | exact Or.inr rfl) (pe_disp (pps_cons pe_str (pe_call G1 (hr.mono (by decide)) rfl m1 k1 b1 .nil pass0 (pa_cons (pv 0) (pa_cons pe_int pa_nil))) (pps_cons pe_str pe_int pps_nil)) rfl rfl (fun z => by cases z) (by decide)))
    (fun cdv A outer s H E c hr =>
    have hu := hr.units
    have nd := sc_law.nd
    (dss_cons (ds_for PassesOwn.never rfl (di_range1 (by rfl) z_range (da_cons de_int da_nil)) (gn 2 nd) (dss_cons (sset 3 nd (kallW 1 h_law_d hr da_nil))
    (dss_cons (sset 4 nd (kall h_law_all hr (da_cons (nv 3) da_nil)))
    (dss_cons (spar3 5 6 7 nd (da_cons (kallW 1 h_law_pick hr (da_cons (nv 4) da_nil)) (da_cons (kallW 1 h_law_pick hr (da_cons (nv 4) da_nil)) (da_cons (kallW 1 h_law_pick hr (da_cons (nv 4) da_nil)) da_nil))))
    (dss_cons (sset 8 nd (kall h_law_joined hr (da_cons (nv 5) (da_cons (nv 6) da_nil))))
    (dss_cons (ds_if (dw_or (dt_not (dt_val (kall h_law_alike hr (da_cons (kall h_joined_two hr (da_cons (nv 5) (da_cons (nv 6) da_nil))) (da_cons (nv 8) da_nil))))) (dw_or1 (dt_not (dt_val (kall h_law_alike hr (da_cons (kall h_joined_two hr (da_cons (kallW 1 h_law_drawn hr (da_cons (nv 6) da_nil)) (da_cons (nv 5) da_nil))) (da_cons (nv 8) da_nil))))))).dt (dss_one (ds_ret de_bl)) dss_nil)
    (dss_one (ds_if (dw_or (dt_ne (hu) (kall h_joined_two hr (da_cons (nv 8) (da_cons (nv 7) da_nil))) (kall h_joined_two hr (da_cons (nv 5) (da_cons (kall h_joined_two hr (da_cons (nv 6) (da_cons (nv 7) da_nil))) da_nil)))) (dw_or1 (dt_ne (hu) (kall h_joined_two hr (da_cons (nv 5) (da_cons (kall h_unit_two hr (da_cons (nv 3) da_nil)) da_nil))) (nv 5)))).dt (dss_one (ds_ret de_bl)) dss_nil))))))))
    (dss_one (ds_ret (de_and (kall h_law_alike hr (da_cons (kall h_joined_two hr (da_cons (de_tup (da_cons de_int (da_cons de_int (da_cons de_int da_nil)))) (da_cons (de_tup (da_cons de_int (da_cons de_int (da_cons de_int da_nil)))) da_nil))) (da_cons (de_tup (da_cons de_int (da_cons (de_neg de_int) (da_cons de_int da_nil)))) da_nil))) (de_one (kall h_law_alike hr (da_cons (kall h_joined_two hr (da_cons (de_tup (da_cons de_int (da_cons de_int (da_cons de_int da_nil)))) (da_cons (de_tup (da_cons de_int (da_cons de_int (da_cons de_int da_nil)))) da_nil))) (da_cons (de_tup (da_cons de_int (da_cons de_int (da_cons de_int da_nil)))) da_nil))))))))) ok_law_k55
end
theorem all_mk {l : PySem.W.OpenLaw} {w : World} {K : PySem.W.Frag} {h : Heap} {mg : Str → Option Value} {fa : Addr} (X : K.In h) (G : h.Ns mainGlobals mg) (hfa : mg "law" = some (.ref fa))
    {f0 : Addr} {od0 an0 : Option Addr} {sl0 : Array (Option Value)} {oc0 kV0 dc0 pm0 cd0 ct0 : Value} (a0 : PySem.W.nsIn K mainGlobals "_law_draws" = some (some (.ref f0))) (l0 : K.lookup f0 = some ⟨oc0, od0, .func (PySem.W.fnOf "_law_draws" "_law_draws" (defArgs s_law_draws) (defBody s_law_draws) (defScope s_law_draws) .none kV0 dc0 pm0 an0 cd0 ct0), sl0⟩) (c0 : PySem.W.codeIn K cd0 "_law_draws" = true) (k0 : PySem.W.keepIn K (.ref f0) = true)
    {f1 : Addr} {od1 an1 : Option Addr} {sl1 : Array (Option Value)} {oc1 kV1 dc1 pm1 cd1 ct1 : Value} (a1 : PySem.W.nsIn K mainGlobals "_law_next" = some (some (.ref f1))) (l1 : K.lookup f1 = some ⟨oc1, od1, .func (PySem.W.fnOf "_law_next" "_law_next" (defArgs s_law_next) (defBody s_law_next) (defScope s_law_next) .none kV1 dc1 pm1 an1 cd1 ct1), sl1⟩) (c1 : PySem.W.codeIn K cd1 "_law_next" = true) (k1 : PySem.W.keepIn K (.ref f1) = true)
    {f2 : Addr} {od2 an2 : Option Addr} {sl2 : Array (Option Value)} {oc2 kV2 dc2 pm2 cd2 ct2 : Value} (a2 : PySem.W.nsIn K mainGlobals "_law_pick" = some (some (.ref f2))) (l2 : K.lookup f2 = some ⟨oc2, od2, .func (PySem.W.fnOf "_law_pick" "_law_pick" (defArgs s_law_pick) (defBody s_law_pick) (defScope s_law_pick) .none kV2 dc2 pm2 an2 cd2 ct2), sl2⟩) (c2 : PySem.W.codeIn K cd2 "_law_pick" = true) (k2 : PySem.W.keepIn K (.ref f2) = true)
    {f3 : Addr} {od3 an3 : Option Addr} {sl3 : Array (Option Value)} {oc3 kV3 dc3 pm3 cd3 ct3 : Value} (a3 : PySem.W.nsIn K mainGlobals "_law_d" = some (some (.ref f3))) (l3 : K.lookup f3 = some ⟨oc3, od3, .func (PySem.W.fnOf "_law_d" "_law_d" (defArgs s_law_d) (defBody s_law_d) (defScope s_law_d) .none kV3 dc3 pm3 an3 cd3 ct3), sl3⟩) (c3 : PySem.W.codeIn K cd3 "_law_d" = true) (k3 : PySem.W.keepIn K (.ref f3) = true)
    {f4 : Addr} {od4 an4 : Option Addr} {sl4 : Array (Option Value)} {oc4 kV4 dc4 pm4 cd4 ct4 : Value} (a4 : PySem.W.nsIn K mainGlobals "_law_common" = some (some (.ref f4))) (l4 : K.lookup f4 = some ⟨oc4, od4, .func (PySem.W.fnOf "_law_common" "_law_common" (defArgs s_law_common) (defBody s_law_common) (defScope s_law_common) .none kV4 dc4 pm4 an4 cd4 ct4), sl4⟩) (c4 : PySem.W.codeIn K cd4 "_law_common" = true) (k4 : PySem.W.keepIn K (.ref f4) = true)
    {f5 : Addr} {od5 an5 : Option Addr} {sl5 : Array (Option Value)} {oc5 kV5 dc5 pm5 cd5 ct5 : Value} (a5 : PySem.W.nsIn K mainGlobals "_law_all" = some (some (.ref f5))) (l5 : K.lookup f5 = some ⟨oc5, od5, .func (PySem.W.fnOf "_law_all" "_law_all" (defArgs s_law_all) (defBody s_law_all) (defScope s_law_all) .none kV5 dc5 pm5 an5 cd5 ct5), sl5⟩) (c5 : PySem.W.codeIn K cd5 "_law_all" = true) (k5 : PySem.W.keepIn K (.ref f5) = true)
    {f6 : Addr} {od6 an6 : Option Addr} {sl6 : Array (Option Value)} {oc6 kV6 dc6 pm6 cd6 ct6 : Value} (a6 : PySem.W.nsIn K mainGlobals "_law_below_nothing" = some (some (.ref f6))) (l6 : K.lookup f6 = some ⟨oc6, od6, .func (PySem.W.fnOf "_law_below_nothing" "_law_below_nothing" (defArgs s_law_below_nothing) (defBody s_law_below_nothing) (defScope s_law_below_nothing) .none kV6 dc6 pm6 an6 cd6 ct6), sl6⟩) (c6 : PySem.W.codeIn K cd6 "_law_below_nothing" = true) (k6 : PySem.W.keepIn K (.ref f6) = true)
    {f7 : Addr} {od7 an7 : Option Addr} {sl7 : Array (Option Value)} {oc7 kV7 dc7 pm7 cd7 ct7 : Value} (a7 : PySem.W.nsIn K mainGlobals "_law_changed" = some (some (.ref f7))) (l7 : K.lookup f7 = some ⟨oc7, od7, .func (PySem.W.fnOf "_law_changed" "_law_changed" (defArgs s_law_changed) (defBody s_law_changed) (defScope s_law_changed) .none kV7 dc7 pm7 an7 cd7 ct7), sl7⟩) (c7 : PySem.W.codeIn K cd7 "_law_changed" = true) (k7 : PySem.W.keepIn K (.ref f7) = true)
    {f8 : Addr} {od8 an8 : Option Addr} {sl8 : Array (Option Value)} {oc8 kV8 dc8 pm8 cd8 ct8 : Value} (a8 : PySem.W.nsIn K mainGlobals "_law_turn_far" = some (some (.ref f8))) (l8 : K.lookup f8 = some ⟨oc8, od8, .func (PySem.W.fnOf "_law_turn_far" "_law_turn_far" (defArgs s_law_turn_far) (defBody s_law_turn_far) (defScope s_law_turn_far) .none kV8 dc8 pm8 an8 cd8 ct8), sl8⟩) (c8 : PySem.W.codeIn K cd8 "_law_turn_far" = true) (k8 : PySem.W.keepIn K (.ref f8) = true)
    {f9 : Addr} {od9 an9 : Option Addr} {sl9 : Array (Option Value)} {oc9 kV9 dc9 pm9 cd9 ct9 : Value} (a9 : PySem.W.nsIn K mainGlobals "_law_turn_to" = some (some (.ref f9))) (l9 : K.lookup f9 = some ⟨oc9, od9, .func (PySem.W.fnOf "_law_turn_to" "_law_turn_to" (defArgs s_law_turn_to) (defBody s_law_turn_to) (defScope s_law_turn_to) .none kV9 dc9 pm9 an9 cd9 ct9), sl9⟩) (c9 : PySem.W.codeIn K cd9 "_law_turn_to" = true) (k9 : PySem.W.keepIn K (.ref f9) = true)
    {f10 : Addr} {od10 an10 : Option Addr} {sl10 : Array (Option Value)} {oc10 kV10 dc10 pm10 cd10 ct10 : Value} (a10 : PySem.W.nsIn K mainGlobals "_law_prime_to" = some (some (.ref f10))) (l10 : K.lookup f10 = some ⟨oc10, od10, .func (PySem.W.fnOf "_law_prime_to" "_law_prime_to" (defArgs s_law_prime_to) (defBody s_law_prime_to) (defScope s_law_prime_to) .none kV10 dc10 pm10 an10 cd10 ct10), sl10⟩) (c10 : PySem.W.codeIn K cd10 "_law_prime_to" = true) (k10 : PySem.W.keepIn K (.ref f10) = true)
    {f11 : Addr} {od11 an11 : Option Addr} {sl11 : Array (Option Value)} {oc11 kV11 dc11 pm11 cd11 ct11 : Value} (a11 : PySem.W.nsIn K mainGlobals "_law_least" = some (some (.ref f11))) (l11 : K.lookup f11 = some ⟨oc11, od11, .func (PySem.W.fnOf "_law_least" "_law_least" (defArgs s_law_least) (defBody s_law_least) (defScope s_law_least) .none kV11 dc11 pm11 an11 cd11 ct11), sl11⟩) (c11 : PySem.W.codeIn K cd11 "_law_least" = true) (k11 : PySem.W.keepIn K (.ref f11) = true)
    {f12 : Addr} {od12 an12 : Option Addr} {sl12 : Array (Option Value)} {oc12 kV12 dc12 pm12 cd12 ct12 : Value} (a12 : PySem.W.nsIn K mainGlobals "_law_joined" = some (some (.ref f12))) (l12 : K.lookup f12 = some ⟨oc12, od12, .func (PySem.W.fnOf "_law_joined" "_law_joined" (defArgs s_law_joined) (defBody s_law_joined) (defScope s_law_joined) .none kV12 dc12 pm12 an12 cd12 ct12), sl12⟩) (c12 : PySem.W.codeIn K cd12 "_law_joined" = true) (k12 : PySem.W.keepIn K (.ref f12) = true)
    {f13 : Addr} {od13 an13 : Option Addr} {sl13 : Array (Option Value)} {oc13 kV13 dc13 pm13 cd13 ct13 : Value} (a13 : PySem.W.nsIn K mainGlobals "_law_alike" = some (some (.ref f13))) (l13 : K.lookup f13 = some ⟨oc13, od13, .func (PySem.W.fnOf "_law_alike" "_law_alike" (defArgs s_law_alike) (defBody s_law_alike) (defScope s_law_alike) .none kV13 dc13 pm13 an13 cd13 ct13), sl13⟩) (c13 : PySem.W.codeIn K cd13 "_law_alike" = true) (k13 : PySem.W.keepIn K (.ref f13) = true)
    {f14 : Addr} {od14 an14 : Option Addr} {sl14 : Array (Option Value)} {oc14 kV14 dc14 pm14 cd14 ct14 : Value} (a14 : PySem.W.nsIn K mainGlobals "size_of_two" = some (some (.ref f14))) (l14 : K.lookup f14 = some ⟨oc14, od14, .func (PySem.W.fnOf "size_of_two" "size_of_two" (defArgs s_size_of_two) (defBody s_size_of_two) (defScope s_size_of_two) .none kV14 dc14 pm14 an14 cd14 ct14), sl14⟩) (c14 : PySem.W.codeIn K cd14 "size_of_two" = true) (k14 : PySem.W.keepIn K (.ref f14) = true)
    {f15 : Addr} {od15 an15 : Option Addr} {sl15 : Array (Option Value)} {oc15 kV15 dc15 pm15 cd15 ct15 : Value} (a15 : PySem.W.nsIn K mainGlobals "split" = some (some (.ref f15))) (l15 : K.lookup f15 = some ⟨oc15, od15, .func (PySem.W.fnOf "split" "split" (defArgs s_split) (defBody s_split) (defScope s_split) .none kV15 dc15 pm15 an15 cd15 ct15), sl15⟩) (c15 : PySem.W.codeIn K cd15 "split" = true) (k15 : PySem.W.keepIn K (.ref f15) = true)
    {f16 : Addr} {od16 an16 : Option Addr} {sl16 : Array (Option Value)} {oc16 kV16 dc16 pm16 cd16 ct16 : Value} (a16 : PySem.W.nsIn K mainGlobals "least_two" = some (some (.ref f16))) (l16 : K.lookup f16 = some ⟨oc16, od16, .func (PySem.W.fnOf "least_two" "least_two" (defArgs s_least_two) (defBody s_least_two) (defScope s_least_two) .none kV16 dc16 pm16 an16 cd16 ct16), sl16⟩) (c16 : PySem.W.codeIn K cd16 "least_two" = true) (k16 : PySem.W.keepIn K (.ref f16) = true)
    {f17 : Addr} {od17 an17 : Option Addr} {sl17 : Array (Option Value)} {oc17 kV17 dc17 pm17 cd17 ct17 : Value} (a17 : PySem.W.nsIn K mainGlobals "joined_two" = some (some (.ref f17))) (l17 : K.lookup f17 = some ⟨oc17, od17, .func (PySem.W.fnOf "joined_two" "joined_two" (defArgs s_joined_two) (defBody s_joined_two) (defScope s_joined_two) .none kV17 dc17 pm17 an17 cd17 ct17), sl17⟩) (c17 : PySem.W.codeIn K cd17 "joined_two" = true) (k17 : PySem.W.keepIn K (.ref f17) = true)
    {f18 : Addr} {od18 an18 : Option Addr} {sl18 : Array (Option Value)} {oc18 kV18 dc18 pm18 cd18 ct18 : Value} (a18 : PySem.W.nsIn K mainGlobals "_law_drawn" = some (some (.ref f18))) (l18 : K.lookup f18 = some ⟨oc18, od18, .func (PySem.W.fnOf "_law_drawn" "_law_drawn" (defArgs s_law_drawn) (defBody s_law_drawn) (defScope s_law_drawn) .none kV18 dc18 pm18 an18 cd18 ct18), sl18⟩) (c18 : PySem.W.codeIn K cd18 "_law_drawn" = true) (k18 : PySem.W.keepIn K (.ref f18) = true)
    {f19 : Addr} {od19 an19 : Option Addr} {sl19 : Array (Option Value)} {oc19 kV19 dc19 pm19 cd19 ct19 : Value} (a19 : PySem.W.nsIn K mainGlobals "unit_two" = some (some (.ref f19))) (l19 : K.lookup f19 = some ⟨oc19, od19, .func (PySem.W.fnOf "unit_two" "unit_two" (defArgs s_unit_two) (defBody s_unit_two) (defScope s_unit_two) .none kV19 dc19 pm19 an19 cd19 ct19), sl19⟩) (c19 : PySem.W.codeIn K cd19 "unit_two" = true) (k19 : PySem.W.keepIn K (.ref f19) = true)
    {f20 : Addr} {od20 an20 : Option Addr} {sl20 : Array (Option Value)} {oc20 kV20 dc20 pm20 cd20 ct20 : Value} (a20 : PySem.W.nsIn K mainGlobals "law" = some (some (.ref f20))) (l20 : K.lookup f20 = some ⟨oc20, od20, .func (PySem.W.fnOf "law" "law" (defArgs s_law) (defBody s_law) (defScope s_law) .none kV20 dc20 pm20 an20 cd20 ct20), sl20⟩) (c20 : PySem.W.codeIn K cd20 "law" = true) (k20 : PySem.W.keepIn K (.ref f20) = true)
    (zlen : PySem.W.nsIn K mainGlobals "len" = some none)    (zrange : PySem.W.nsIn K mainGlobals "range" = some none)    (zint : PySem.W.nsIn K mainGlobals "int" = some none)    (zabs : PySem.W.nsIn K mainGlobals "abs" = some none)    (zsorted : PySem.W.nsIn K mainGlobals "sorted" = some none)    (zmax : PySem.W.nsIn K mainGlobals "max" = some none)    (zisinstance : PySem.W.nsIn K mainGlobals "isinstance" = some none)    (ztuple : PySem.W.nsIn K mainGlobals "tuple" = some none)    (zbool : PySem.W.nsIn K mainGlobals "bool" = some none)    (zstr : PySem.W.nsIn K mainGlobals "str" = some none) :
    ∃ fd : FuncData, (∀ (s : Shared) (v : Value), BindsTo s fd ⟨[v], []⟩ [("script", v)]) ∧ ∀ base : Heap, K.In base → base.Ns mainGlobals mg → FnOk l.prog w K mg base CX0 9 fa fd ["script"] (spLaw K) := by
  have e := hfa.symm.trans (PySem.W.mg_of X G a20)
  cases e
  have z_len := PySem.W.mg_none_of X G zlen
  have z_range := PySem.W.mg_none_of X G zrange
  have z_int := PySem.W.mg_none_of X G zint
  have z_abs := PySem.W.mg_none_of X G zabs
  have z_sorted := PySem.W.mg_none_of X G zsorted
  have z_max := PySem.W.mg_none_of X G zmax
  have z_isinstance := PySem.W.mg_none_of X G zisinstance
  have z_tuple := PySem.W.mg_none_of X G ztuple
  have z_bool := PySem.W.mg_none_of X G zbool
  have z_str := PySem.W.mg_none_of X G zstr
  refine ⟨PySem.W.fnOf "law" "law" (defArgs s_law) (defBody s_law) (defScope s_law) .none kV20 dc20 pm20 an20 cd20 ct20, fun s v => .of_eq rfl, fun base _ _ => ?_⟩
  have F0 := fun_mk (st := s_law_draws) l0 c0 k0
  have b0 := F0.binds (ps := ["script", "many"]) fun _ _ _ _ _ _ us hl => match us, hl with | [_, _], _ => rfl
  have h_law_draws : Has l.prog w K mg base 1 "_law_draws" ["script", "many"] (liftSpS K 1 sp_draws) := ⟨f0, _, fn_law_draws F0 z_len z_range z_int z_abs, PySem.W.mg_of X G a0, k0, b0⟩
  have F1 := fun_mk (st := s_law_next) l1 c1 k1
  have b1 := F1.binds (ps := ["w", "many"]) fun _ _ _ _ _ _ us hl => match us, hl with | [_, _], _ => rfl
  have h_law_next : Has l.prog w K mg base 1 "_law_next" ["w", "many"] (liftSpW K 1 sp_next) := ⟨f1, _, fn_law_next F1 z_len z_int, PySem.W.mg_of X G a1, k1, b1⟩
  have F2 := fun_mk (st := s_law_pick) l2 c2 k2
  have b2 := F2.binds (ps := ["w", "rows"]) fun _ _ _ _ _ _ us hl => match us, hl with | [_, _], _ => rfl
  have h_law_pick : Has l.prog w K mg base 2 "_law_pick" ["w", "rows"] (liftSpW K 1 sp_law_pick) := ⟨f2, _, fn_law_pick F2 z_len h_law_next, PySem.W.mg_of X G a2, k2, b2⟩
  have F3 := fun_mk (st := s_law_d) l3 c3 k3
  have b3 := F3.binds (ps := ["w"]) fun _ _ _ _ _ _ us hl => match us, hl with | [_], _ => rfl
  have h_law_d : Has l.prog w K mg base 3 "_law_d" ["w"] (liftSpW K 0 sp_law_d) := ⟨f3, _, fn_law_d F3 h_law_pick, PySem.W.mg_of X G a3, k3, b3⟩
  have F4 := fun_mk (st := s_law_common) l4 c4 k4
  have b4 := F4.binds (ps := ["a", "b"]) fun _ _ _ _ _ _ us hl => match us, hl with | [_, _], _ => rfl
  have h_law_common : Has l.prog w K mg base 1 "_law_common" ["a", "b"] (liftSp K 2 sp_law_common_v1) := ⟨f4, _, fn_law_common F4 z_abs z_int, PySem.W.mg_of X G a4, k4, b4⟩
  have F5 := fun_mk (st := s_law_all) l5 c5 k5
  have b5 := F5.binds (ps := ["d"]) fun _ _ _ _ _ _ us hl => match us, hl with | [_], _ => rfl
  have h_law_all : Has l.prog w K mg base 2 "_law_all" ["d"] (liftSp K 1 sp_law_all) := ⟨f5, _, fn_law_all F5 z_range z_int z_sorted h_law_common, PySem.W.mg_of X G a5, k5, b5⟩
  have F6 := fun_mk (st := s_law_below_nothing) l6 c6 k6
  have b6 := F6.binds (ps := ["form"]) fun _ _ _ _ _ _ us hl => match us, hl with | [_], _ => rfl
  have h_law_below_nothing : Has l.prog w K mg base 1 "_law_below_nothing" ["form"] (liftSp K 1 sp_law_below_nothing) := ⟨f6, _, fn_law_below_nothing F6 , PySem.W.mg_of X G a6, k6, b6⟩
  have F7 := fun_mk (st := s_law_changed) l7 c7 k7
  have b7 := F7.binds (ps := ["form", "turn"]) fun _ _ _ _ _ _ us hl => match us, hl with | [_, _], _ => rfl
  have h_law_changed : Has l.prog w K mg base 1 "_law_changed" ["form", "turn"] (liftSp K 2 sp_law_changed) := ⟨f7, _, fn_law_changed F7 , PySem.W.mg_of X G a7, k7, b7⟩
  have F8 := fun_mk (st := s_law_turn_far) l8 c8 k8
  have b8 := F8.binds (ps := ["x", "y"]) fun _ _ _ _ _ _ us hl => match us, hl with | [_, _], _ => rfl
  have h_law_turn_far : Has l.prog w K mg base 1 "_law_turn_far" ["x", "y"] (liftSp K 2 sp_law_turn_far) := ⟨f8, _, fn_law_turn_far F8 z_int, PySem.W.mg_of X G a8, k8, b8⟩
  have F9 := fun_mk (st := s_law_turn_to) l9 c9 k9
  have b9 := F9.binds (ps := ["x", "y"]) fun _ _ _ _ _ _ us hl => match us, hl with | [_, _], _ => rfl
  have h_law_turn_to : Has l.prog w K mg base 2 "_law_turn_to" ["x", "y"] (liftSp K 2 sp_law_turn_to) := ⟨f9, _, fn_law_turn_to F9 z_abs z_range z_int h_law_turn_far, PySem.W.mg_of X G a9, k9, b9⟩
  have F10 := fun_mk (st := s_law_prime_to) l10 c10 k10
  have b10 := F10.binds (ps := ["form", "a"]) fun _ _ _ _ _ _ us hl => match us, hl with | [_, _], _ => rfl
  have h_law_prime_to : Has l.prog w K mg base 3 "_law_prime_to" ["form", "a"] (liftSp K 2 sp_law_prime_to) := ⟨f10, _, fn_law_prime_to F10 z_range z_abs z_max h_law_common h_law_changed h_law_turn_to, PySem.W.mg_of X G a10, k10, b10⟩
  have F11 := fun_mk (st := s_law_least) l11 c11 k11
  have b11 := F11.binds (ps := ["form"]) fun _ _ _ _ _ _ us hl => match us, hl with | [_], _ => rfl
  have h_law_least : Has l.prog w K mg base 1 "_law_least" ["form"] (liftSp K 1 sp_law_least) := ⟨f11, _, fn_law_least F11 , PySem.W.mg_of X G a11, k11, b11⟩
  have F12 := fun_mk (st := s_law_joined) l12 c12 k12
  have b12 := F12.binds (ps := ["one", "other"]) fun _ _ _ _ _ _ us hl => match us, hl with | [_, _], _ => rfl
  have h_law_joined : Has l.prog w K mg base 4 "_law_joined" ["one", "other"] (liftSp K 2 sp_law_joined) := ⟨f12, _, fn_law_joined F12 z_int h_law_below_nothing h_law_prime_to h_law_least, PySem.W.mg_of X G a12, k12, b12⟩
  have F13 := fun_mk (st := s_law_alike) l13 c13 k13
  have b13 := F13.binds (ps := ["told", "due"]) fun _ _ _ _ _ _ us hl => match us, hl with | [_, _], _ => rfl
  have h_law_alike : Has l.prog w K mg base 8 "_law_alike" ["told", "due"] (liftSp K 2 sp_law_alike) := ⟨f13, _, fn_law_alike F13 b13 (PySem.W.mg_of X G a13) k13 z_isinstance z_tuple z_len z_range z_bool z_int z_str 8, PySem.W.mg_of X G a13, k13, b13⟩
  have F14 := fun_mk (st := s_size_of_two) l14 c14 k14
  have b14 := F14.binds (ps := ["form"]) fun _ _ _ _ _ _ us hl => match us, hl with | [_], _ => rfl
  have h_size_of_two : Has l.prog w K mg base 1 "size_of_two" ["form"] (liftSp K 1 sp_size_of_two) := ⟨f14, _, fn_size_of_two F14 , PySem.W.mg_of X G a14, k14, b14⟩
  have F15 := fun_mk (st := s_split) l15 c15 k15
  have b15 := F15.binds (ps := ["a", "b"]) fun _ _ _ _ _ _ us hl => match us, hl with | [_, _], _ => rfl
  have h_split : Has l.prog w K mg base 1 "split" ["a", "b"] (liftSp K 2 sp_split) := ⟨f15, _, fn_split F15 , PySem.W.mg_of X G a15, k15, b15⟩
  have F16 := fun_mk (st := s_least_two) l16 c16 k16
  have b16 := F16.binds (ps := ["form"]) fun _ _ _ _ _ _ us hl => match us, hl with | [_], _ => rfl
  have h_least_two : Has l.prog w K mg base 1 "least_two" ["form"] (liftSp K 1 sp_least_two) := ⟨f16, _, fn_least_two F16 , PySem.W.mg_of X G a16, k16, b16⟩
  have F17 := fun_mk (st := s_joined_two) l17 c17 k17
  have b17 := F17.binds (ps := ["one", "other"]) fun _ _ _ _ _ _ us hl => match us, hl with | [_, _], _ => rfl
  have h_joined_two : Has l.prog w K mg base 2 "joined_two" ["one", "other"] (liftSp K 2 sp_joined_two) := ⟨f17, _, fn_joined_two F17 h_size_of_two h_split h_least_two, PySem.W.mg_of X G a17, k17, b17⟩
  have F18 := fun_mk (st := s_law_drawn) l18 c18 k18
  have b18 := F18.binds (ps := ["w", "form"]) fun _ _ _ _ _ _ us hl => match us, hl with | [_, _], _ => rfl
  have h_law_drawn : Has l.prog w K mg base 3 "_law_drawn" ["w", "form"] (liftSpW K 1 sp_law_drawn_v2) := ⟨f18, _, fn_law_drawn F18 z_range h_law_next h_law_changed h_law_pick, PySem.W.mg_of X G a18, k18, b18⟩
  have F19 := fun_mk (st := s_unit_two) l19 c19 k19
  have b19 := F19.binds (ps := ["d"]) fun _ _ _ _ _ _ us hl => match us, hl with | [_], _ => rfl
  have h_unit_two : Has l.prog w K mg base 1 "unit_two" ["d"] (liftSp K 1 sp_unit_two) := ⟨f19, _, fn_unit_two F19 , PySem.W.mg_of X G a19, k19, b19⟩
  have F20 := fun_mk (st := s_law) l20 c20 k20
  exact fn_law F20 z_range h_law_draws h_law_d h_law_all h_law_pick h_law_joined h_law_alike h_joined_two h_law_drawn h_unit_two
theorem walk {l : PySem.W.OpenLaw} {q : Program} {loose : List Str} {XP : (Str → Option Value) → Heap → Prop} {YP : World → Heap → Prop} {d : DefRec} {K : Params → PySem.W.Frag} (hn : l.most = some 63) (hdf : d.params.defaults = [])
    (hY : ∀ (w : World) (h : Heap), YP w h → (K w.params).In h)
    (F : ∀ (w : World) (mg : Str → Option Value) (fa : Addr) (h : Heap), (K w.params).In h → h.Ns mainGlobals mg → mg d.name = some (.ref fa) →
      ∃ fd : FuncData, (∀ (s : Shared) (u : Value), BindsTo s fd ⟨[u], []⟩ [("script", u)]) ∧ ∀ base : Heap, (K w.params).In base → base.Ns mainGlobals mg → FnOk l.prog w (K w.params) mg base CX0 9 fa fd ["script"] (spLaw (K w.params))) :
    PySem.W.WalkO q loose XP YP l.row.toRowW d [] (fun f vs => PySem.call f vs) :=
  L2.walk_of (n := 63) (k := 9) (x := "script") (CX := fun _ => CX0) (sp := fun w => spLaw (K w.params)) hn (by decide) hdf ⟨rfl, by decide, by decide⟩ hY F (fun _ _ a ns hl _ hS => ⟨a, ns, rfl, hS, hl, fun _ => rfl⟩) fun _ _ _ _ _ z => z
end Lay
open PySem PySem.W PyProof.Rows
set_option maxRecDepth 100000 in
set_option maxHeartbeats 0 in
theorem PySem.Challenge.cw_placewise_k55_joined_forms_holds : PySem.Challenge.rw_placewise_k55_joined_forms.Holds := by
  w_on; o_law; k_head; (case hw => w_witness2)
  k_fill
  refine Lay.walk (l := PySem.Challenge.rw_placewise_k55_joined_forms) rfl rfl (fun w h Y => PySem.W.kIn_of Y) ?F
  case F =>
    intro w mg fa h KX G hmg
    refine' Lay.all_mk KX G hmg ?a0 ?l0 ?c0 ?k0 ?a1 ?l1 ?c1 ?k1 ?a2 ?l2 ?c2 ?k2 ?a3 ?l3 ?c3 ?k3 ?a4 ?l4 ?c4 ?k4 ?a5 ?l5 ?c5 ?k5 ?a6 ?l6 ?c6 ?k6 ?a7 ?l7 ?c7 ?k7 ?a8 ?l8 ?c8 ?k8 ?a9 ?l9 ?c9 ?k9 ?a10 ?l10 ?c10 ?k10 ?a11 ?l11 ?c11 ?k11 ?a12 ?l12 ?c12 ?k12 ?a13 ?l13 ?c13 ?k13 ?a14 ?l14 ?c14 ?k14 ?a15 ?l15 ?c15 ?k15 ?a16 ?l16 ?c16 ?k16 ?a17 ?l17 ?c17 ?k17 ?a18 ?l18 ?c18 ?k18 ?a19 ?l19 ?c19 ?k19 ?a20 ?l20 ?c20 ?k20 ?zlen ?zrange ?zint ?zabs ?zsorted ?zmax ?zisinstance ?ztuple ?zbool ?zstr
    (case a0 => k_is); (case l0 => k_is); (case c0 => k_is); (case k0 => k_is)
    (case a1 => k_is); (case l1 => k_is); (case c1 => k_is); (case k1 => k_is)
    (case a2 => k_is); (case l2 => k_is); (case c2 => k_is); (case k2 => k_is)
    (case a3 => k_is); (case l3 => k_is); (case c3 => k_is); (case k3 => k_is)
    (case a4 => k_is); (case l4 => k_is); (case c4 => k_is); (case k4 => k_is)
    (case a5 => k_is); (case l5 => k_is); (case c5 => k_is); (case k5 => k_is)
    (case a6 => k_is); (case l6 => k_is); (case c6 => k_is); (case k6 => k_is)
    (case a7 => k_is); (case l7 => k_is); (case c7 => k_is); (case k7 => k_is)
    (case a8 => k_is); (case l8 => k_is); (case c8 => k_is); (case k8 => k_is)
    (case a9 => k_is); (case l9 => k_is); (case c9 => k_is); (case k9 => k_is)
    (case a10 => k_is); (case l10 => k_is); (case c10 => k_is); (case k10 => k_is)
    (case a11 => k_is); (case l11 => k_is); (case c11 => k_is); (case k11 => k_is)
    (case a12 => k_is); (case l12 => k_is); (case c12 => k_is); (case k12 => k_is)
    (case a13 => k_is); (case l13 => k_is); (case c13 => k_is); (case k13 => k_is)
    (case a14 => k_is); (case l14 => k_is); (case c14 => k_is); (case k14 => k_is)
    (case a15 => k_is); (case l15 => k_is); (case c15 => k_is); (case k15 => k_is)
    (case a16 => k_is); (case l16 => k_is); (case c16 => k_is); (case k16 => k_is)
    (case a17 => k_is); (case l17 => k_is); (case c17 => k_is); (case k17 => k_is)
    (case a18 => k_is); (case l18 => k_is); (case c18 => k_is); (case k18 => k_is)
    (case a19 => k_is); (case l19 => k_is); (case c19 => k_is); (case k19 => k_is)
    (case a20 => k_is); (case l20 => k_is); (case c20 => k_is); (case k20 => k_is)
    (case zlen => k_is)
    (case zrange => k_is)
    (case zint => k_is)
    (case zabs => k_is)
    (case zsorted => k_is)
    (case zmax => k_is)
    (case zisinstance => k_is)
    (case ztuple => k_is)
    (case zbool => k_is)
    (case zstr => k_is)
