import PyProof.Rows.All
import Wide.All
import OpenK.AllK
import Wide.FinOn
import HandS.ForMost
import HandS.Wide
import HandS.TupAny
import HandS.TupMul
import HandS.Style
import HandS.IsInst
import HandS.NoneIn
import HandS.SortInts
import HandS.Zip
import HandS.SortOrd
import HandS.SortRule
import HandS.TupSets
import HandS.SetFor
import HandS.Strs
import HandS.Dict
import HandS.FltList
import HandS.More
import HandS.List
import HandS.Iter
import KE.KDictDisplayH
import PySem.Challenge.RW_placewise_k53_least_forms_of_two_letters
set_option Elab.async false
set_option linter.all false
set_option maxRecDepth 100000
set_option maxHeartbeats 1000000
namespace Lay
open PySem PySem.Spec L2
open PyProof.Rows hiding St

abbrev D := PyData

mutual
/-- the value v stands for the data d, by the frozen heap F -/
inductive Rep (K : PySem.W.Frag) (F : Hp) : V → D → Prop
  | non : Rep K F .non .none
  | bl (b : Bool) : Rep K F (.bl b) (.bool b)
  | int (i : Int) : Rep K F (.int i) (.int i)
  | str (x : Str) : Rep K F (.str x) (.str x)
  | lst {a : Addr} {xs : List V} {ds : List D} : F a = some (.lst xs) → Reps K F xs ds → ds.length ≤ sizeLine → Rep K F (.ref a) (.list ds)
  | tup {a : Addr} {xs : List V} {ds : List D} : SqT K F a xs → Reps K F xs ds → ds.length ≤ sizeLine → Rep K F (.ref a) (.tuple ds)
inductive Reps (K : PySem.W.Frag) (F : Hp) : List V → List D → Prop
  | nil : Reps K F [] []
  | cons {v : V} {vs : List V} {d : D} {ds : List D} : Rep K F v d → Reps K F vs ds → Reps K F (v :: vs) (d :: ds)
end

section
variable {K : PySem.W.Frag} {F F' H : Hp}
theorem Rd.mono {a : Addr} {u : HO} (hF : ∀ a o, F a = some o → F' a = some o) (h : Rd F a u) : Rd F' a u := by
  rcases h with h | ⟨o, h⟩
  · exact .inl (hF _ _ h)
  · exact .inr ⟨o, hF _ _ h⟩
theorem sqL_mono {a : Addr} {xs : List V} (hF : ∀ a o, F a = some o → F' a = some o) (h : SqL K F a xs) : SqL K F' a xs := by
  rcases h with h | h
  · exact .inl (Rd.mono hF h)
  · exact .inr h
theorem sqT_mono {a : Addr} {xs : List V} (hF : ∀ a o, F a = some o → F' a = some o) (h : SqT K F a xs) : SqT K F' a xs := by
  rcases h with h | h
  · exact .inl (Rd.mono hF h)
  · exact .inr h
mutual
theorem Rep.mono (hF : ∀ a o, F a = some o → F' a = some o) : ∀ (d : D) (v : V), Rep K F v d → Rep K F' v d
  | .none, _, h => by cases h; exact .non
  | .bool b, _, h => by cases h; exact .bl b
  | .int i, _, h => by cases h; exact .int i
  | .str x, _, h => by cases h; exact .str x
  | .list ds, _, h => by
    cases h with
    | lst h1 h2 h3 => exact .lst (hF _ _ h1) (Reps.mono hF ds _ h2) h3
  | .tuple ds, _, h => by
    cases h with
    | tup h1 h2 h3 => exact .tup (sqT_mono hF h1) (Reps.mono hF ds _ h2) h3
  | .dict _, _, h => by cases h
theorem Reps.mono (hF : ∀ a o, F a = some o → F' a = some o) : ∀ (ds : List D) (vs : List V), Reps K F vs ds → Reps K F' vs ds
  | [], _, h => by cases h; exact .nil
  | d :: ds, _, h => by
    cases h with
    | cons h1 h2 => exact .cons (Rep.mono hF d _ h1) (Reps.mono hF ds _ h2)
end
mutual
theorem Rep.dp (hF : ∀ a o, F a = some o → F' a = some o) : ∀ (d : D) (v : V), Rep K F v d → Dp K F' v d
  | .none, _, h => by cases h; exact .non
  | .bool b, _, h => by cases h; exact .bl b
  | .int i, _, h => by cases h; exact .int i
  | .str x, _, h => by cases h; exact .str x
  | .list ds, _, h => by
    cases h with
    | lst h1 h2 h3 => exact .lst (SqL.of (hF _ _ h1)) (Reps.dp hF ds _ h2)
  | .tuple ds, _, h => by
    cases h with
    | tup h1 h2 h3 => exact .tup (sqT_mono hF h1) (Reps.dp hF ds _ h2)
  | .dict _, _, h => by cases h
theorem Reps.dp (hF : ∀ a o, F a = some o → F' a = some o) : ∀ (ds : List D) (vs : List V), Reps K F vs ds → DpAll K F' vs ds
  | [], _, h => by cases h; exact .nil
  | d :: ds, _, h => by
    cases h with
    | cons h1 h2 => exact .cons (Rep.dp hF d _ h1) (Reps.dp hF ds _ h2)
end
theorem Reps.len : ∀ {ds : List D} {vs : List V}, Reps K F vs ds → vs.length = ds.length
  | [], _, h => by cases h; rfl
  | d :: ds, _, h => by
    cases h with
    | cons h1 h2 => simp [Reps.len h2]
theorem Reps.get : ∀ {ds : List D} {vs : List V} {i : Nat} {d : D}, Reps K F vs ds → ds[i]? = some d → ∃ v, vs[i]? = some v ∧ Rep K F v d
  | [], _, i, d, h, e => by simp at e
  | _ :: _, _, 0, d, h, e => by
    cases h with
    | cons h1 h2 =>
      simp at e
      subst e
      exact ⟨_, rfl, h1⟩
  | _ :: _, _, i + 1, d, h, e => by
    cases h with
    | cons h1 h2 =>
      obtain ⟨v, e1, e2⟩ := Reps.get (i := i) (d := d) h2 (by simpa using e)
      exact ⟨v, by simpa using e1, e2⟩
theorem Reps.get' : ∀ {ds : List D} {vs : List V} {i : Nat} {v : V}, Reps K F vs ds → vs[i]? = some v → ∃ d, ds[i]? = some d ∧ Rep K F v d
  | [], _, i, v, h, e => by cases h; simp at e
  | _ :: _, _, 0, v, h, e => by
    cases h with
    | cons h1 h2 =>
      simp at e
      subst e
      exact ⟨_, rfl, h1⟩
  | _ :: _, _, i + 1, v, h, e => by
    cases h with
    | cons h1 h2 =>
      obtain ⟨d, e1, e2⟩ := Reps.get' (i := i) (v := v) h2 (by simpa using e)
      exact ⟨d, by simpa using e1, e2⟩
theorem Reps.append : ∀ {ds es : List D} {vs us : List V}, Reps K F vs ds → Reps K F us es → Reps K F (vs ++ us) (ds ++ es)
  | [], _, _, _, h, g => by cases h; exact g
  | _ :: _, _, _, _, h, g => by
    cases h with
    | cons h1 h2 => exact .cons h1 (Reps.append h2 g)
theorem Reps.take : ∀ {ds : List D} {vs : List V} (n : Nat), Reps K F vs ds → Reps K F (vs.take n) (ds.take n)
  | _, _, 0, _ => .nil
  | [], _, _ + 1, h => by cases h; exact .nil
  | _ :: _, _, n + 1, h => by
    cases h with
    | cons h1 h2 => exact .cons h1 (Reps.take n h2)
theorem Reps.drop : ∀ {ds : List D} {vs : List V} (n : Nat), Reps K F vs ds → Reps K F (vs.drop n) (ds.drop n)
  | _, _, 0, h => h
  | [], _, _ + 1, h => by cases h; exact .nil
  | _ :: _, _, n + 1, h => by
    cases h with
    | cons h1 h2 => exact Reps.drop n h2
theorem Reps.set {v : V} {d : D} (r : Rep K F v d) : ∀ {ds : List D} {vs : List V} (i : Nat), Reps K F vs ds → Reps K F (vs.set i v) (ds.set i d)
  | [], _, _, h => by cases h; exact .nil
  | _ :: _, _, 0, h => by
    cases h with
    | cons h1 h2 => exact .cons r h2
  | _ :: _, _, i + 1, h => by
    cases h with
    | cons h1 h2 => exact .cons h1 (Reps.set r i h2)
theorem Reps.reverse {ds : List D} {vs : List V} (h : Reps K F vs ds) : Reps K F vs.reverse ds.reverse := by
  induction ds generalizing vs with
  | nil => cases h; exact .nil
  | cons d ds ih =>
    cases h with
    | cons h1 h2 =>
      rw [List.reverse_cons, List.reverse_cons]
      exact (ih h2).append (.cons h1 .nil)
theorem Reps.ints : ∀ (ns : List Int), Reps K F (ns.map V.int) (ns.map PyData.int)
  | [] => .nil
  | n :: ns => .cons (.int n) (Reps.ints ns)
theorem Reps.ints_inv : ∀ {ns : List Int} {vs : List V}, Reps K F vs (ns.map PyData.int) → vs = ns.map V.int
  | [], _, h => by cases h; rfl
  | n :: ns, _, h => by
    cases h with
    | cons h1 h2 =>
      cases h1
      rw [Reps.ints_inv h2]; rfl
theorem Reps.bls_inv : ∀ {ns : List Bool} {vs : List V}, Reps K F vs (ns.map PyData.bool) → vs = ns.map V.bl
  | [], _, h => by cases h; rfl
  | n :: ns, _, h => by
    cases h with
    | cons h1 h2 =>
      cases h1
      rw [Reps.bls_inv h2]; rfl
theorem Reps.strs_inv : ∀ {ns : List Str} {vs : List V}, Reps K F vs (ns.map PyData.str) → vs = ns.map V.str
  | [], _, h => by cases h; rfl
  | n :: ns, _, h => by
    cases h with
    | cons h1 h2 =>
      cases h1
      rw [Reps.strs_inv h2]; rfl
end

/-- at p.1 stands the source: its draws (at p.2), the place -/
def WOk (H : Hp) (p : Addr × Addr) : Prop :=
  ∃ (n : Int) (ns : List Int), H p.1 = some (.dK [(.inr "draws", .ref p.2), (.inr "at", .int n)]) ∧ H p.2 = some (.lst (ns.map V.int)) ∧ 0 ≤ n ∧ ∀ r ∈ ns, 0 ≤ r ∧ r < 997
def isW (wo : Option (Addr × Addr)) (a : Addr) : Prop := ∃ d, wo = some (a, d)

structure Ext (wo : Option (Addr × Addr)) (F H F' H' : Hp) : Prop where
  ff : ∀ a o, F a = some o → F' a = some o
  fh : ∀ a o, F' a = some o → H' a = some o
  hh : ∀ a o, H a = some o → ¬ isW wo a → H' a = some o
  nw : ∀ a o, F' a = some o → F a = none → H a = none ∨ ∃ xs, H a = some (.tup xs)
  wk : ∀ p, wo = some p → WOk H' p
section
variable {K : PySem.W.Frag} {wo : Option (Addr × Addr)} {F F' F1 F2 H H' H1 H2 : Hp}
theorem WOk.ne {p : Addr × Addr} (w : WOk H p) : p.1 ≠ p.2 := by
  obtain ⟨n, ns, h1, h2, _⟩ := w
  exact ne_of h1 h2 (by intro z; cases z)
theorem WOk.keep {p : Addr × Addr} (w : WOk H p) (h1 : ∀ o, H p.1 = some o → H' p.1 = some o) (h2 : ∀ o, H p.2 = some o → H' p.2 = some o) : WOk H' p := by
  obtain ⟨n, ns, e1, e2, e3⟩ := w
  exact ⟨n, ns, h1 _ e1, h2 _ e2, e3⟩
theorem Ext.refl (h : ∀ a o, F a = some o → H a = some o) (w : ∀ p, wo = some p → WOk H p) : Ext wo F H F H :=
  ⟨fun _ _ e => e, h, fun _ _ e _ => e, fun _ _ e n => (by rw [n] at e; cases e), w⟩
theorem Ext.self (x : Ext wo F1 H1 F H) : Ext wo F H F H := Ext.refl x.fh x.wk
theorem Ext.back (x : Ext wo F H F' H') {a : Addr} (h : H' a = none) : H a = none := by
  cases e : H a with
  | none => rfl
  | some o =>
    by_cases q : isW wo a
    · obtain ⟨d, q⟩ := q
      obtain ⟨_, _, z, _⟩ := x.wk _ q
      rw [show H' a = _ from z] at h; cases h
    · rw [x.hh a o e q] at h; cases h
theorem Ext.trans (x : Ext wo F H F1 H1) (y : Ext wo F1 H1 F2 H2) : Ext wo F H F2 H2 where
  ff := fun a o e => y.ff a o (x.ff a o e)
  fh := y.fh
  hh := fun a o e q => y.hh a o (x.hh a o e q) q
  nw := fun a o e n => by
    cases q : F1 a with
    | none =>
      rcases y.nw a o e q with z | ⟨xs, z⟩
      · exact .inl (x.back z)
      · cases e1 : H a with
        | none => exact .inl rfl
        | some u =>
          by_cases w : isW wo a
          · obtain ⟨d, w⟩ := w
            obtain ⟨_, _, z2, _⟩ := x.wk _ w
            rw [show H1 a = _ from z2] at z
            cases z
          · rw [x.hh a u e1 w] at z
            cases z
            exact .inr ⟨_, rfl⟩
    | some u => exact x.nw a u q n
  wk := y.wk
theorem notW : ¬ isW none a := fun ⟨_, q⟩ => nomatch q
/-- a pure step within a step that may turn the source -/
theorem Ext.pure (x : Ext none F H F' H') (w : ∀ p, wo = some p → WOk H p) : Ext wo F H F' H' where
  ff := x.ff
  fh := x.fh
  hh := fun a o e _ => x.hh a o e notW
  nw := x.nw
  wk := fun p e => (w p e).keep (fun o q => x.hh _ o q notW) (fun o q => x.hh _ o q notW)
/-- a new object, frozen -/
theorem Ext.new {p : Addr} {o : HO} (h : ∀ a o, F a = some o → H a = some o) (w : ∀ p, wo = some p → WOk H p) (hp : H p = none) : Ext wo F H (upd F p o) (upd H p o) := by
  have nh : ∀ a u, H a = some u → a ≠ p := fun a u e => ne_of_none e hp
  refine ⟨fun a u e => ?_, fun a u e => ?_, fun a u e _ => by rw [upd_ne (nh a u e)]; exact e, fun a u e n => ?_, fun q e => (w q e).keep (fun u e => by rw [upd_ne (nh _ u e)]; exact e) fun u e => by rw [upd_ne (nh _ u e)]; exact e⟩
  · rw [upd_ne (nh a u (h a u e))]; exact e
  · by_cases q : a = p
    · subst q; rw [upd_same] at e ⊢; exact e
    · rw [upd_ne q] at e ⊢; exact h a u e
  · by_cases q : a = p
    · subst q; exact .inl hp
    · rw [upd_ne q] at e; rw [n] at e; cases e
/-- an object is made or turned that stood neither in H nor in F -/
theorem Ext.poke {p : Addr} {o : HO} (x : Ext wo F H F' H') (hp : H p = none) (fp : F' p = none) (w : ∀ q, wo = some q → p ≠ q.1 ∧ p ≠ q.2) : Ext wo F H F' (upd H' p o) where
  ff := x.ff
  fh := fun a u e => by rw [upd_ne (ne_of_none e fp)]; exact x.fh a u e
  hh := fun a u e n => by rw [upd_ne (ne_of_none e hp)]; exact x.hh a u e n
  nw := x.nw
  wk := fun q e => (x.wk q e).keep (fun u z => by rw [upd_ne (w q e).1.symm]; exact z) fun u z => by rw [upd_ne (w q e).2.symm]; exact z
theorem Ext.wne (x : Ext wo F H F' H') {p : Addr} (hp : H' p = none) : ∀ q, wo = some q → p ≠ q.1 ∧ p ≠ q.2 := fun q e => by
  obtain ⟨_, _, h1, h2, _⟩ := x.wk q e
  exact ⟨(ne_of_none h1 hp).symm, (ne_of_none h2 hp).symm⟩
end

inductive Sl where
  | un | val (d : D) | own (xs : List D) | dic (kvs : List (Key × D)) | wv | scr (ns : List Int)
abbrev En := List Sl
def Sl.isOwn : Sl → Bool
  | .own _ => true
  | .dic _ => true
  | _ => false
inductive KReps (K : PySem.W.Frag) (F : Hp) : List (Key × V) → List (Key × D) → Prop
  | nil : KReps K F [] []
  | cons {k : Key} {v : V} {vs : List (Key × V)} {d : D} {ds : List (Key × D)} : Rep K F v d → KReps K F vs ds → KReps K F ((k, v) :: vs) ((k, d) :: ds)
theorem KReps.mono {K : PySem.W.Frag} {F F' : Hp} (hF : ∀ a o, F a = some o → F' a = some o) : ∀ {vs : List (Key × V)} {ds : List (Key × D)}, KReps K F vs ds → KReps K F' vs ds
  | _, _, .nil => .nil
  | _, _, .cons r t => .cons (Rep.mono hF _ _ r) (KReps.mono hF t)
/-- the entry: the source, the frozen heap, the heap -/
structure Ct where
  wo : Option (Addr × Addr)
  F_0 : Hp
  H_0 : Hp
def SlR (K : PySem.W.Frag) (c : Ct) (F H : Hp) (ov : Option V) : Sl → Prop
  | .un => True
  | .val d => ∃ v, ov = some v ∧ Rep K F v d
  | .own ds => ∃ a vs, ov = some (.ref a) ∧ H a = some (.lst vs) ∧ Reps K F vs ds ∧ ds.length ≤ sizeLine
  | .dic kvs => ∃ a vs, ov = some (.ref a) ∧ H a = some (.dK vs) ∧ KReps K F vs kvs ∧ kvs.length ≤ sizeLine
  | .wv => ∃ a, ov = some (.ref a) ∧ isW c.wo a
  | .scr ns => ∃ a, ov = some (.ref a) ∧ SqL K F a (ns.map V.int)
def ownAt (σ : St) (en : En) (i : Nat) (a : Addr) : Prop := σ[i]? = some (some (.ref a)) ∧ ∃ s, en[i]? = some s ∧ s.isOwn = true
structure SR (K : PySem.W.Frag) (c : Ct) (F : Hp) (σ : St) (H : Hp) (en : En) : Prop where
  ext : Ext c.wo c.F_0 c.H_0 F H
  len : σ.length = en.length
  sl : ∀ (i : Nat) s, en[i]? = some s → ∃ ov, σ[i]? = some ov ∧ SlR K c F H ov s
  own : ∀ i a, ownAt σ en i a → F a = none ∧ (∀ p, c.wo = some p → a ≠ p.1 ∧ a ≠ p.2) ∧ c.H_0 a = none
  apart : ∀ i j a, ownAt σ en i a → ownAt σ en j a → i = j
  wn : ∀ p, c.wo = some p → F p.1 = none
section
variable {K : PySem.W.Frag} {c : Ct} {F F' H H' : Hp} {σ : St} {en : En}
theorem SR.fh (r : SR K c F σ H en) : ∀ a o, F a = some o → H a = some o := r.ext.fh
theorem SR.wk (r : SR K c F σ H en) : ∀ p, c.wo = some p → WOk H p := r.ext.wk
theorem SR.there (r : SR K c F σ H en) {i : Nat} {a : Addr} (h : ownAt σ en i a) : ∃ o, H a = some o ∧ ∀ ps, o ≠ .tup ps := by
  obtain ⟨e, s, es, so⟩ := h
  obtain ⟨ov, eo, q⟩ := r.sl i s es
  rw [e] at eo; cases eo
  cases s with
  | un => cases so
  | val d => cases so
  | wv => cases so
  | scr ns => cases so
  | own ds =>
    obtain ⟨b, vs, e1, e2, _⟩ := q
    cases e1
    exact ⟨_, e2, fun _ z => nomatch z⟩
  | dic ds =>
    obtain ⟨b, vs, e1, e2, _⟩ := q
    cases e1
    exact ⟨_, e2, fun _ z => nomatch z⟩
theorem SR.notW (r : SR K c F σ H en) {i : Nat} {a : Addr} (h : ownAt σ en i a) : ¬ isW c.wo a := fun ⟨d, q⟩ => ((r.own i a h).2.1 _ q).1 rfl
theorem SR.grow (r : SR K c F σ H en) (x : Ext c.wo F H F' H') : SR K c F' σ H' en where
  ext := r.ext.trans x
  len := r.len
  sl := fun i s e => by
    obtain ⟨ov, eo, q⟩ := r.sl i s e
    refine ⟨ov, eo, ?_⟩
    cases s with
    | un => trivial
    | val d =>
      obtain ⟨v, e1, e2⟩ := q
      exact ⟨v, e1, Rep.mono x.ff _ _ e2⟩
    | own ds =>
      obtain ⟨a, vs, e1, e2, e3, e4⟩ := q
      subst e1
      exact ⟨a, vs, rfl, x.hh _ _ e2 (r.notW ⟨eo, _, e, rfl⟩), Reps.mono x.ff _ _ e3, e4⟩
    | dic ds =>
      obtain ⟨a, vs, e1, e2, e3, e4⟩ := q
      subst e1
      exact ⟨a, vs, rfl, x.hh _ _ e2 (r.notW ⟨eo, _, e, rfl⟩), KReps.mono x.ff e3, e4⟩
    | wv => exact q
    | scr ns =>
      obtain ⟨a, e1, e2⟩ := q
      exact ⟨a, e1, sqL_mono x.ff e2⟩
  own := fun i a h => by
    obtain ⟨h1, h2, h3⟩ := r.own i a h
    refine ⟨?_, h2, h3⟩
    cases e : F' a with
    | none => rfl
    | some o =>
      obtain ⟨o', e', nt⟩ := r.there h
      rcases x.nw a o e h1 with z | ⟨xs, z⟩
      · rw [z] at e'; cases e'
      · rw [z] at e'; cases e'; exact absurd rfl (nt xs)
  apart := r.apart
  wn := fun p e => by
    cases q : F' p.1 with
    | none => rfl
    | some o =>
      obtain ⟨_, _, z, _⟩ := r.wk p e
      rcases x.nw _ o q (r.wn p e) with h1 | ⟨xs, h1⟩ <;> (rw [h1] at z; cases z)
theorem get_set {α : Type} {l : List α} {i j : Nat} {x s : α} (e : (l.set i x)[j]? = some s) : (i = j ∧ s = x ∧ i < l.length) ∨ (i ≠ j ∧ l[j]? = some s) := by
  by_cases q : i = j
  · subst q
    by_cases hl : i < l.length
    · rw [List.getElem?_set_self hl] at e
      cases e
      exact .inl ⟨rfl, rfl, hl⟩
    · rw [List.getElem?_eq_none (by simp; omega)] at e; cases e
  · rw [List.getElem?_set_ne q] at e
    exact .inr ⟨q, e⟩
theorem own_set {i j : Nat} {ov : Option V} {s : Sl} {a : Addr} (n : s.isOwn = false) (h : ownAt (σ.set i ov) (en.set i s) j a) : ownAt σ en j a := by
  obtain ⟨e, u, eu, ou⟩ := h
  rcases get_set eu with ⟨_, e1, _⟩ | ⟨q, e1⟩
  · rw [e1, n] at ou; cases ou
  · rw [List.getElem?_set_ne q] at e
    exact ⟨e, u, e1, ou⟩
/-- a slot is stored with what is not owned -/
theorem SR.setS (r : SR K c F σ H en) {i : Nat} {ov : Option V} {s : Sl} (n : s.isOwn = false) (h : SlR K c F H ov s) : SR K c F (σ.set i ov) H (en.set i s) where
  ext := r.ext
  len := by simp [r.len]
  sl := fun j u e => by
    rcases get_set e with ⟨q, e1, hl⟩ | ⟨q, e1⟩
    · subst q e1
      exact ⟨ov, by rw [List.getElem?_set_self (by rw [r.len]; exact hl)], h⟩
    · obtain ⟨w, e2, e3⟩ := r.sl j u e1
      exact ⟨w, by rw [List.getElem?_set_ne q]; exact e2, e3⟩
  own := fun j a h => r.own j a (own_set n h)
  apart := fun j k a h g => r.apart j k a (own_set n h) (own_set n g)
  wn := r.wn
theorem SR.set (r : SR K c F σ H en) {i : Nat} {v : V} {d : D} (h : Rep K F v d) : SR K c F (σ.set i (some v)) H (en.set i (.val d)) := r.setS rfl ⟨v, rfl, h⟩
/-- a slot is stored with a new list or dict of its own (tracked, not frozen) -/
theorem SR.setO (r : SR K c F σ H en) {i : Nat} {p : Addr} {s : Sl} {o : HO} (hp : H p = none) (h : SlR K c F (upd H p o) (some (.ref p)) s) : SR K c F (σ.set i (some (.ref p))) (upd H p o) (en.set i s) := by
  have fp : F p = none := by
    cases q : F p with
    | none => rfl
    | some u => rw [r.fh _ _ q] at hp; cases hp
  have x : Ext c.wo F H F (upd H p o) := r.ext.self.poke hp fp (r.ext.wne hp)
  have g := r.grow x
  have np : ∀ {j a}, ownAt σ en j a → a ≠ p := fun {j a} z => by
    obtain ⟨u, e, _⟩ := r.there z
    exact ne_of_none e hp
  have inv : ∀ {j a}, ownAt (σ.set i (some (.ref p))) (en.set i s) j a → (j = i ∧ a = p) ∨ (j ≠ i ∧ ownAt σ en j a) := fun {j a} z => by
    obtain ⟨e, u, eu, ou⟩ := z
    rcases get_set eu with ⟨q, e1, hl⟩ | ⟨q, e1⟩
    · subst q
      rw [List.getElem?_set_self (by rw [r.len]; exact hl)] at e
      cases e
      exact .inl ⟨rfl, rfl⟩
    · rw [List.getElem?_set_ne q] at e
      exact .inr ⟨fun z => q z.symm, e, u, e1, ou⟩
  refine ⟨g.ext, by simp [r.len], fun j u e => ?_, fun j a z => ?_, fun j k a z1 z2 => ?_, r.wn⟩
  · rcases get_set e with ⟨q, e1, hl⟩ | ⟨q, e1⟩
    · subst q e1
      exact ⟨_, by rw [List.getElem?_set_self (by rw [r.len]; exact hl)], h⟩
    · obtain ⟨w, e2, e3⟩ := g.sl j u e1
      exact ⟨w, by rw [List.getElem?_set_ne q]; exact e2, e3⟩
  · rcases inv z with ⟨_, e⟩ | ⟨_, z⟩
    · subst e
      exact ⟨fp, r.ext.wne hp, r.ext.back hp⟩
    · exact g.own j a z
  · rcases inv z1 with ⟨e1, e2⟩ | ⟨n1, y1⟩
    · rcases inv z2 with ⟨e3, e4⟩ | ⟨n2, y2⟩
      · rw [e1, e3]
      · exact absurd e2 (np y2)
    · rcases inv z2 with ⟨e3, e4⟩ | ⟨n2, y2⟩
      · exact absurd e4 (np y1)
      · exact r.apart j k a y1 y2
/-- an owned list or dict is turned in its place -/
theorem SR.turn (r : SR K c F σ H en) {i : Nat} {a : Addr} {s : Sl} {o : HO} (ha : ownAt σ en i a) (h : SlR K c F (upd H a o) (some (.ref a)) s) : SR K c F σ (upd H a o) (en.set i s) := by
  obtain ⟨o1, o2, o3⟩ := r.own i a ha
  have np : ∀ {j b}, j ≠ i → ownAt σ en j b → b ≠ a := fun {j b} n z q => by
    subst q
    exact n (r.apart _ _ _ z ha)
  have inv : ∀ {j b}, ownAt σ (en.set i s) j b → (j = i ∧ b = a) ∨ (j ≠ i ∧ ownAt σ en j b) := fun {j b} z => by
    obtain ⟨e, u, eu, ou⟩ := z
    rcases get_set eu with ⟨q, e1, hl⟩ | ⟨q, e1⟩
    · subst q
      rw [ha.1] at e
      cases e
      exact .inl ⟨rfl, rfl⟩
    · exact .inr ⟨fun z => q z.symm, e, u, e1, ou⟩
  refine ⟨r.ext.poke o3 o1 o2, by simp [r.len], fun j u e => ?_, fun j b z => ?_, fun j k b z1 z2 => ?_, r.wn⟩
  · rcases get_set e with ⟨q, e1, hl⟩ | ⟨q, e1⟩
    · subst q e1
      exact ⟨_, ha.1, h⟩
    · obtain ⟨w, e2, e3⟩ := r.sl j u e1
      refine ⟨w, e2, ?_⟩
      cases u with
      | un => trivial
      | val d => exact e3
      | own ds =>
        obtain ⟨b, vs, e1', e2', e3', e4'⟩ := e3
        subst e1'
        exact ⟨b, vs, rfl, by rw [upd_ne (np (fun z => q z.symm) ⟨e2, _, e1, rfl⟩)]; exact e2', e3', e4'⟩
      | dic ds =>
        obtain ⟨b, vs, e1', e2', e3', e4'⟩ := e3
        subst e1'
        exact ⟨b, vs, rfl, by rw [upd_ne (np (fun z => q z.symm) ⟨e2, _, e1, rfl⟩)]; exact e2', e3', e4'⟩
      | wv => exact e3
      | scr ns => exact e3
  · rcases inv z with ⟨_, e⟩ | ⟨_, z⟩
    · subst e; exact ⟨o1, o2, o3⟩
    · exact r.own j b z
  · rcases inv z1 with ⟨e1, e2⟩ | ⟨n1, y1⟩
    · rcases inv z2 with ⟨e3, e4⟩ | ⟨n2, y2⟩
      · rw [e1, e3]
      · exact absurd e2 (np n2 y2)
    · rcases inv z2 with ⟨e3, e4⟩ | ⟨n2, y2⟩
      · exact absurd e4 (np n1 y1)
      · exact r.apart j k b y1 y2
/-- an owned list is frozen -/
theorem SR.freeze (r : SR K c F σ H en) {i : Nat} {xs : List D} (e : en[i]? = some (.own xs)) : ∃ F', Ext c.wo c.F_0 c.H_0 F' H ∧ (∀ a o, F a = some o → F' a = some o) ∧ SR K c F' σ H (en.set i (.val (.list xs))) := by
  obtain ⟨ov, eo, a, vs, e1, e2, e3, e4⟩ := r.sl i _ e
  subst e1
  have ha : ownAt σ en i a := ⟨eo, _, e, rfl⟩
  obtain ⟨o1, o2, o3⟩ := r.own i a ha
  have ff : ∀ b o, F b = some o → upd F a (.lst vs) b = some o := fun b o q => by rw [upd_ne (ne_of_none q o1)]; exact q
  have x : Ext c.wo c.F_0 c.H_0 (upd F a (.lst vs)) H := by
    refine ⟨fun b o q => ff b o (r.ext.ff b o q), fun b o q => ?_, r.ext.hh, fun b o q n => ?_, r.wk⟩
    · by_cases z : b = a
      · subst z; rw [upd_same] at q; cases q; exact e2
      · rw [upd_ne z] at q; exact r.fh b o q
    · by_cases z : b = a
      · subst z; exact .inl o3
      · rw [upd_ne z] at q; exact r.ext.nw b o q n
  have nu : ∀ {j b}, ownAt σ (en.set i (.val (.list xs))) j b → j ≠ i ∧ ownAt σ en j b := fun {j b} z => by
    obtain ⟨e, u, eu, ou⟩ := z
    rcases get_set eu with ⟨q, e1, hl⟩ | ⟨q, e1⟩
    · rw [e1] at ou; cases ou
    · exact ⟨fun z => q z.symm, e, u, e1, ou⟩
  refine ⟨upd F a (.lst vs), x, ff, x, by simp [r.len], fun j u q => ?_, fun j b z => ?_, fun j k b z1 z2 => r.apart j k b (nu z1).2 (nu z2).2, fun p q => ?_⟩
  · rcases get_set q with ⟨q, e1, hl⟩ | ⟨q, e1⟩
    · subst q e1
      exact ⟨_, eo, _, rfl, .lst upd_same (Reps.mono ff _ _ e3) e4⟩
    · obtain ⟨w, g2, g3⟩ := r.sl j u e1
      refine ⟨w, g2, ?_⟩
      cases u with
      | un => trivial
      | val d =>
        obtain ⟨v, h1, h2⟩ := g3
        exact ⟨v, h1, Rep.mono ff _ _ h2⟩
      | own ds =>
        obtain ⟨b, us, h1, h2, h3, h4⟩ := g3
        exact ⟨b, us, h1, h2, Reps.mono ff _ _ h3, h4⟩
      | dic ds =>
        obtain ⟨b, us, h1, h2, h3, h4⟩ := g3
        exact ⟨b, us, h1, h2, KReps.mono ff h3, h4⟩
      | wv => exact g3
      | scr ns =>
        obtain ⟨b, h1, h2⟩ := g3
        exact ⟨b, h1, sqL_mono ff h2⟩
  · obtain ⟨n, z⟩ := nu z
    obtain ⟨p1, p2, p3⟩ := r.own j b z
    refine ⟨?_, p2, p3⟩
    rw [upd_ne (fun q => n (r.apart _ _ _ (by rw [← q]; exact z) ha))]
    exact p1
  · rw [upd_ne (o2 p q).1.symm]
    exact r.wn p q
end

abbrev DTE := En → (D → Prop) → Prop
abbrev DTT := En → (Bool → Prop) → Prop
abbrev DTA := En → (List D → Prop) → Prop
def liftE (K : PySem.W.Frag) (c : Ct) (m : DTE) : TE := fun σ H Q => ∃ F en R, SR K c F σ H en ∧ m en R ∧ ∀ d, R d → ∀ v F' H', Ext c.wo F H F' H' → Rep K F' v d → Q v H'
def liftT (K : PySem.W.Frag) (c : Ct) (m : DTT) : TT := fun σ H Q => ∃ F en R, SR K c F σ H en ∧ m en R ∧ ∀ b, R b → ∀ F' H', Ext c.wo F H F' H' → Q b H'
def liftA (K : PySem.W.Frag) (c : Ct) (n : Nat) (m : DTA) : TA := fun σ H Q => ∃ F en R, SR K c F σ H en ∧ m en R ∧ ∀ ds, R ds → ∀ vs F' H', Ext c.wo F H F' H' → Reps K F' vs ds → vs.length = n → Q vs H'
structure DE (X : Cx) (c : Ct) (e : Expr) (m : DTE) : Prop where
  run : PE X e (liftE X.K c m)
structure DT (X : Cx) (c : Ct) (e : Expr) (m : DTT) : Prop where
  run : PT X e (liftT X.K c m)
structure DA (X : Cx) (c : Ct) (es : List Expr) (m : DTA) : Prop where
  run : PA X es (liftA X.K c es.length m)
theorem PE.imp {X : Cx} {e : Expr} {t t' : TE} (h : PE X e t) (k : ∀ σ H Q, t' σ H Q → t σ H Q) : PE X e t' := ⟨fun pins s σ H Q I q => h.run pins s σ H Q I (k _ _ _ q)⟩
theorem PT.imp {X : Cx} {e : Expr} {t t' : TT} (h : PT X e t) (k : ∀ σ H Q, t' σ H Q → t σ H Q) : PT X e t' := ⟨fun pins s σ H Q I q => h.run pins s σ H Q I (k _ _ _ q)⟩
theorem PA.imp {X : Cx} {e : List Expr} {t t' : TA} (h : PA X e t) (k : ∀ σ H Q, t' σ H Q → t σ H Q) : PA X e t' := ⟨fun pos pins s σ H Q I q => h.run pos pins s σ H Q I (k _ _ _ q)⟩

section
variable {X : Cx} {c : Ct} {e a b : Expr} {es : List Expr} {m ma mb : DTE} {ml : DTA} {pos : Pos}
/-- the slot i -/
def gt : En → Nat → Sl
  | [], _ => .un
  | s :: _, 0 => s
  | _ :: r, i + 1 => gt r i
theorem gt_get : ∀ {en : En} {i : Nat} {s : Sl}, gt en i = s → s ≠ .un → en[i]? = some s
  | [], _, _, h, n => absurd h.symm n
  | _ :: _, 0, _, h, _ => by simpa [gt] using h
  | _ :: r, i + 1, _, h, n => by
    have h' : gt r i = _ := h
    simpa using gt_get h' n
/-- a step: what a part gives goes on -/
theorem lift_step {K : PySem.W.Frag} {F H : Hp} {en : En} {σ : St} {m : DTE} {R : D → Prop} {Q : VK} (r : SR K c F σ H en) (h : m en R) (k : ∀ d, R d → ∀ v F' H', Ext c.wo F H F' H' → Rep K F' v d → Q v H') : liftE K c m σ H Q := ⟨F, en, R, r, h, k⟩
def onVal (s : Sl) (K : D → Prop) : Prop := match s with | .val d => K d | _ => False
def onOwn (s : Sl) (K : List D → Prop) : Prop := match s with | .own ds => K ds | _ => False
def onDic (s : Sl) (K : List (Key × D) → Prop) : Prop := match s with | .dic ds => K ds | _ => False
def onScr (s : Sl) (K : List Int → Prop) : Prop := match s with | .scr ds => K ds | _ => False
def onWv (s : Sl) (K : Prop) : Prop := match s with | .wv => K | _ => False
def dVar (i : Nat) (en : En) (Q : D → Prop) : Prop := onVal (gt en i) Q
theorem de_var {i : Nat} {x : Str} (hN : X.N[i]? = some x) (hv : Vis X.env.scope x) (hd : (x == ("__debug__" : Str)) = false := by decide) (hcd : (x == ("__classdict__" : Str)) = false := by decide) : DE X c (.Name x pos) (dVar i) := by
  refine ⟨PE.imp (pe_var hN hv hd hcd) ?_⟩
  rintro σ H Q ⟨F, en, R, r, h, k⟩
  unfold dVar onVal at h
  split at h
  · rename_i d e
    obtain ⟨ov, e1, v, e2, e3⟩ := r.sl i _ (gt_get e (fun z => nomatch z))
    subst e2
    exact ⟨v, e1, k _ h v F H r.ext.self e3⟩
  · exact h.elim
def dC (d : D) (_x : En) (Q : D → Prop) : Prop := Q d
theorem de_int {i j} : DE X c (.Constant (.int i) j pos) (dC (.int i)) := ⟨PE.imp pe_int fun σ H Q ⟨F, en, R, r, h, k⟩ => k _ h _ F H r.ext.self (.int i)⟩
theorem de_bl {i j} : DE X c (.Constant (.bool i) j pos) (dC (.bool i)) := ⟨PE.imp pe_bl fun σ H Q ⟨F, en, R, r, h, k⟩ => k _ h _ F H r.ext.self (.bl i)⟩
theorem de_non {j} : DE X c (.Constant .none j pos) (dC .none) := ⟨PE.imp pe_non fun σ H Q ⟨F, en, R, r, h, k⟩ => k _ h _ F H r.ext.self .non⟩
theorem de_str {x j} : DE X c (.Constant (.str x) j pos) (dC (.str x)) := ⟨PE.imp pe_str fun σ H Q ⟨F, en, R, r, h, k⟩ => k _ h _ F H r.ext.self (.str x)⟩

abbrev D2 := D → D → (D → Prop) → Prop
/-- the rule r2 by values serves the data's rule d2 -/
def Serves (K : PySem.W.Frag) (c : Ct) (r2 : R2) (d2 : D2) : Prop :=
  ∀ (F H : Hp) (x y : V) (d e : D) (R : D → Prop) (Q : VK), Ext c.wo F H F H → Rep K F x d → Rep K F y e → d2 d e R → (∀ z, R z → ∀ v F' H', Ext c.wo F H F' H' → Rep K F' v z → Q v H') → r2 x y H Q
def dOp (d2 : D2) (ma mb : DTE) (en : En) (Q : D → Prop) : Prop := ma en fun x => mb en fun y => d2 x y Q
theorem lift_two {K : PySem.W.Frag} {r2 : R2} {d2 : D2} (sv : Serves K c r2 d2) {σ : St} {H : Hp} {Q : VK} (h : liftE K c (dOp d2 ma mb) σ H Q) : liftE K c ma σ H fun x H1 => liftE K c mb σ H1 fun y H2 => r2 x y H2 Q := by
  obtain ⟨F, en, R, r, h, k⟩ := h
  refine ⟨F, en, _, r, h, fun d hd v F1 H1 x1 rv => ?_⟩
  refine ⟨F1, en, _, r.grow x1, hd, fun e he u F2 H2 x2 ru => ?_⟩
  exact sv F2 H2 v u d e R Q x2.self (Rep.mono x2.ff _ _ rv) ru he fun z hz v' F' H' x3 rz => k z hz v' F' H' (x1.trans (x2.trans x3)) rz
end
end Lay
namespace Lay
open PySem PySem.Spec L2
open PyProof.Rows hiding St

/-- by a bool -/
def Cnd (b : Bool) (A B : Prop) : Prop := match b with | true => A | false => B
section
variable {X : Cx} {c : Ct} {e a b : Expr} {es : List Expr} {m ma mb : DTE} {ml : DTA} {mt mu : DTT} {pos : Pos}
theorem de_op {op : Operator} {r2 : R2} {d2 : D2} (ho : OpR X (binaryOp op) r2) (sv : Serves X.K c r2 d2) (ha : DE X c a ma) (hb : DE X c b mb) : DE X c (.BinOp a op b pos) (dOp d2 ma mb) :=
  ⟨PE.imp (pe_op ho ha.run hb.run) fun _ _ _ h => lift_two sv h⟩
theorem de_cmp {op : CmpOp} {r2 : R2} {d2 : D2} (ho : OpR X (compareOp op) r2) (sv : Serves X.K c r2 d2) (ha : DE X c a ma) (hb : DE X c b mb) (hm : behindInMarks op b = false) : DE X c (.Compare a [op] [b] pos) (dOp d2 ma mb) :=
  ⟨PE.imp (pe_cmpR ho ha.run hb.run hm) fun _ _ _ h => lift_two sv h⟩
/-- a value that is a bool, as a test -/
def asB (d : D) (Q : Bool → Prop) : Prop := match d with | .bool b => Q b | _ => False
def dT (m : DTE) (en : En) (Q : Bool → Prop) : Prop := m en fun d => asB d Q
theorem lift_test {K : PySem.W.Frag} {σ : St} {H : Hp} {Q : Bool → Hp → Prop} (h : liftT K c (dT m) σ H Q) : liftE K c m σ H fun x H' => ∃ k, x = .bl k ∧ Q k H' := by
  obtain ⟨F, en, R, r, h, k⟩ := h
  refine ⟨F, en, _, r, h, fun d hd v F' H' x rv => ?_⟩
  cases d with
  | bool b =>
    cases rv
    exact ⟨b, rfl, k b hd F' H' x⟩
  | _ => exact False.elim hd
theorem dt_cmp {op : CmpOp} {r2 : R2} {d2 : D2} (ho : OpR X (compareOp op) r2) (sv : Serves X.K c r2 d2) (ha : DE X c a ma) (hb : DE X c b mb) (hm : behindInMarks op b = false) : DT X c (.Compare a [op] [b] pos) (dT (dOp d2 ma mb)) := by
  refine ⟨PT.imp (pt_cmpR ho ha.run hb.run hm) fun σ H Q h => ?_⟩
  obtain ⟨F, en, R, r, h, k⟩ := lift_test h
  exact lift_two sv ⟨F, en, R, r, h, k⟩
theorem dt_val (h : DE X c e m) (he : ∀ whole, isTrue e X.env whole = (do let v ← whole; standAt e.pos; holding [v] (truthy v)) := by intro _; rfl) : DT X c e (dT m) :=
  ⟨PT.imp (pt_val h.run he) fun σ H Q h => lift_test h⟩

def addD : D2
  | .int i, .int j, Q => Q (.int (i + j))
  | .str x, .str y, Q => x.length + y.length ≤ sizeLine ∧ Q (.str (x ++ y))
  | .tuple xs, .tuple ys, Q => xs.length + ys.length ≤ sizeLine ∧ Q (.tuple (xs ++ ys))
  | .list xs, .list ys, Q => xs.length + ys.length ≤ sizeLine ∧ Q (.list (xs ++ ys))
  | _, _, _ => False
theorem Rep.tupI {K : PySem.W.Frag} {F : Hp} {v : V} {ds : List D} (h : Rep K F v (.tuple ds)) : ∃ a xs, v = .ref a ∧ SqT K F a xs ∧ Reps K F xs ds ∧ ds.length ≤ sizeLine := by
  cases h with
  | tup h1 h2 h3 => exact ⟨_, _, rfl, h1, h2, h3⟩
theorem Rep.lstI {K : PySem.W.Frag} {F : Hp} {v : V} {ds : List D} (h : Rep K F v (.list ds)) : ∃ a xs, v = .ref a ∧ F a = some (.lst xs) ∧ Reps K F xs ds ∧ ds.length ≤ sizeLine := by
  cases h with
  | lst h1 h2 h3 => exact ⟨_, _, rfl, h1, h2, h3⟩
theorem Reps.nil_iff {K : PySem.W.Frag} {F : Hp} {ds : List D} {vs : List V} (h : Reps K F vs ds) : vs = [] ↔ ds = [] := by
  cases h with
  | nil => simp
  | cons _ _ => simp
/-- a new frozen object that stands for data -/
theorem newTup {K : PySem.W.Frag} {F H : Hp} {p : Addr} {xs : List V} {ds : List D} (x : Ext c.wo F H F H) (hp : H p = none) (r : Reps K F xs ds) (z : ds.length ≤ sizeLine) :
    Ext c.wo F H (upd F p (.tup xs)) (upd H p (.tup xs)) ∧ Rep K (upd F p (.tup xs)) (.ref p) (.tuple ds) := by
  have y := Ext.new (o := .tup xs) x.fh x.wk hp
  exact ⟨y, .tup (SqT.of upd_same) (Reps.mono y.ff _ _ r) z⟩
theorem newLst {K : PySem.W.Frag} {F H : Hp} {p : Addr} {xs : List V} {ds : List D} (x : Ext c.wo F H F H) (hp : H p = none) (r : Reps K F xs ds) (z : ds.length ≤ sizeLine) :
    Ext c.wo F H (upd F p (.lst xs)) (upd H p (.lst xs)) ∧ Rep K (upd F p (.lst xs)) (.ref p) (.list ds) := by
  have y := Ext.new (o := .lst xs) x.fh x.wk hp
  exact ⟨y, .lst upd_same (Reps.mono y.ff _ _ r) z⟩
theorem sv_add {K : PySem.W.Frag} : Serves K c (fun x y H Q => (rI0 (fun i j => .int (i + j))) x y H Q ∨ (∃ i j, x = .str i ∧ y = .str j ∧ i.length + j.length ≤ sizeLine ∧ Q (.str (i ++ j)) H) ∨ rCatA K x y H Q ∨ rCat x y H Q) addD := by
  intro F H x y d e R Q ex rx ry h k
  cases d with
  | int i =>
    cases e with
    | int j => cases rx; cases ry; exact .inl ⟨i, j, rfl, rfl, k _ h _ F H ex (.int _)⟩
    | _ => exact False.elim h
  | str i =>
    cases e with
    | str j => cases rx; cases ry; exact .inr (.inl ⟨i, j, rfl, rfl, h.1, k _ h.2 _ F H ex (.str _)⟩)
    | _ => exact False.elim h
  | tuple ds =>
    cases e with
    | tuple es =>
      obtain ⟨p, xs, rfl, h1, h2, h3⟩ := rx.tupI
      obtain ⟨q, ys, rfl, g1, g2, g3⟩ := ry.tupI
      obtain ⟨hz, h⟩ := h
      have l1 := h2.len
      have l2 := g2.len
      refine .inr (.inr (.inl ⟨p, q, xs, ys, rfl, rfl, sqT_mono ex.fh h1, sqT_mono ex.fh g1, by omega, fun e0 => ?_, fun n0 e0 => ?_, fun n0 n1 t ht => ?_⟩))
      · have : ds = [] := h2.nil_iff.mp e0
        subst this
        exact k _ h _ F H ex ry
      · have : es = [] := g2.nil_iff.mp e0
        subst this
        rw [List.append_nil] at h
        exact k _ h _ F H ex rx
      · obtain ⟨y1, y2⟩ := newTup (ds := ds ++ es) ex ht (h2.append g2) (by rw [List.length_append]; exact hz)
        exact k _ h _ _ _ y1 y2
    | _ => exact False.elim h
  | list ds =>
    cases e with
    | list es =>
      obtain ⟨p, xs, rfl, h1, h2, h3⟩ := rx.lstI
      obtain ⟨q, ys, rfl, g1, g2, g3⟩ := ry.lstI
      obtain ⟨hz, h⟩ := h
      have l1 := h2.len
      have l2 := g2.len
      refine .inr (.inr (.inr ⟨p, q, xs, ys, rfl, rfl, ex.fh _ _ h1, ex.fh _ _ g1, by omega, fun t ht => ?_⟩))
      obtain ⟨y1, y2⟩ := newLst (ds := ds ++ es) ex ht (h2.append g2) (by rw [List.length_append]; exact hz)
      exact k _ h _ _ _ y1 y2
    | _ => exact False.elim h
  | _ => exact False.elim h
theorem de_add (ha : DE X c a ma) (hb : DE X c b mb) : DE X c (.BinOp a .Add b pos) (dOp addD ma mb) := de_op (op_add.or (op_add_str.or (op_catA.or op_cat))) sv_add ha hb

def subD : D2
  | .int i, .int j, Q => Q (.int (i - j))
  | _, _, _ => False
def mulD : D2
  | .int i, .int j, Q => CMulW i j ∧ Q (.int (i * j))
  | .tuple ds, .int k, Q => (ds ≠ [] ∧ 1 ≤ k ∧ k ≤ 1000 ∧ ds.length ≤ 1000) ∧ Q (.tuple (List.replicate k.toNat ds).flatten)
  | .list ds, .int k, Q => (-(2 ^ 63) ≤ k ∧ k < 2 ^ 63 ∧ ds.length * k.toNat ≤ sizeLine) ∧ Q (.list (List.replicate k.toNat ds).flatten)
  | _, _, _ => False
def CDivB (i j : Int) : Prop := j ≠ 0 ∧ j.natAbs.log2 < 9000
theorem op_fdivB : OpR X (binaryOp .FloorDiv) (rI CDivB fun i j => .int (i.fdiv j)) := opI fun _ _ _ _ _ _ _ hc q => floordiv_int hc.1 q (.inl (PyProof.noPylong_of_log2 hc.2))
def fdivD : D2
  | .int i, .int j, Q => CDivB i j ∧ Q (.int (i.fdiv j))
  | _, _, _ => False
def modD : D2
  | .int i, .int j, Q => j ≠ 0 ∧ Q (.int (i.fmod j))
  | _, _, _ => False
def powD : D2
  | .int i, .int j, Q => CPow i j ∧ Q (.int (i ^ j.toNat))
  | _, _, _ => False
def shlD : D2
  | .int i, .int j, Q => CPow i j ∧ Q (.int (i * 2 ^ j.toNat))
  | _, _, _ => False
def shrD : D2
  | .int i, .int j, Q => 0 ≤ j ∧ Q (.int (i / 2 ^ j.toNat))
  | _, _, _ => False
def andD : D2
  | .int i, .int j, Q => Q (.int (Builtin.bitAnd i j))
  | _, _, _ => False
def ltD : D2
  | .int i, .int j, Q => Q (.bool (decide (i < j)))
  | _, _, _ => False
def leD : D2
  | .int i, .int j, Q => Q (.bool (decide (i ≤ j)))
  | _, _, _ => False
def gtD : D2
  | .int i, .int j, Q => Q (.bool (decide (j < i)))
  | _, _, _ => False
def geD : D2
  | .int i, .int j, Q => Q (.bool (decide (j ≤ i)))
  | _, _, _ => False
theorem sv_i0 {K : PySem.W.Frag} {g : Int → Int → V} {g' : Int → Int → D} (hg : ∀ F i j, Rep K F (g i j) (g' i j)) {d2 : D2} (hd : ∀ i j R, d2 (.int i) (.int j) R → R (g' i j)) (hn : ∀ d e R, d2 d e R → ∃ i j, d = .int i ∧ e = .int j) : Serves K c (rI0 g) d2 := by
  intro F H x y d e R Q ex rx ry h k
  obtain ⟨i, j, rfl, rfl⟩ := hn d e R h
  cases rx
  cases ry
  exact ⟨i, j, rfl, rfl, k _ (hd i j R h) _ F H ex (hg F i j)⟩
theorem sv_i {K : PySem.W.Frag} {C : Int → Int → Prop} {g : Int → Int → V} {g' : Int → Int → D} (hg : ∀ F i j, Rep K F (g i j) (g' i j)) {d2 : D2} (hd : ∀ i j R, d2 (.int i) (.int j) R → C i j ∧ R (g' i j)) (hn : ∀ d e R, d2 d e R → ∃ i j, d = .int i ∧ e = .int j) : Serves K c (rI C g) d2 := by
  intro F H x y d e R Q ex rx ry h k
  obtain ⟨i, j, rfl, rfl⟩ := hn d e R h
  cases rx
  cases ry
  exact ⟨i, j, rfl, rfl, (hd i j R h).1, k _ (hd i j R h).2 _ F H ex (hg F i j)⟩
theorem two_ints {d2 : D2} (h1 : ∀ d e R, d2 d e R → ∃ i j, d = .int i ∧ e = .int j) {d e : D} {R : D → Prop} (h : d2 d e R) : ∃ i j, d = .int i ∧ e = .int j := h1 d e R h
theorem de_sub (ha : DE X c a ma) (hb : DE X c b mb) : DE X c (.BinOp a .Sub b pos) (dOp subD ma mb) :=
  de_op op_sub (sv_i0 (g' := fun i j => .int (i - j)) (fun _ _ _ => .int _) (fun _ _ _ h => h) (fun d e R h => by cases d <;> cases e <;> first | exact ⟨_, _, rfl, rfl⟩ | exact False.elim h)) ha hb
theorem de_fdiv (ha : DE X c a ma) (hb : DE X c b mb) : DE X c (.BinOp a .FloorDiv b pos) (dOp fdivD ma mb) :=
  de_op op_fdivB (sv_i (g' := fun i j => .int (i.fdiv j)) (fun _ _ _ => .int _) (fun _ _ _ h => h) (fun d e R h => by cases d <;> cases e <;> first | exact ⟨_, _, rfl, rfl⟩ | exact False.elim h)) ha hb
theorem de_mod (ha : DE X c a ma) (hb : DE X c b mb) : DE X c (.BinOp a .Mod b pos) (dOp modD ma mb) :=
  de_op op_modN (sv_i (g' := fun i j => .int (i.fmod j)) (fun _ _ _ => .int _) (fun _ _ _ h => h) (fun d e R h => by cases d <;> cases e <;> first | exact ⟨_, _, rfl, rfl⟩ | exact False.elim h)) ha hb
theorem de_pow (ha : DE X c a ma) (hb : DE X c b mb) : DE X c (.BinOp a .Pow b pos) (dOp powD ma mb) :=
  de_op op_pow (sv_i (g' := fun i j => .int (i ^ j.toNat)) (fun _ _ _ => .int _) (fun _ _ _ h => h) (fun d e R h => by cases d <;> cases e <;> first | exact ⟨_, _, rfl, rfl⟩ | exact False.elim h)) ha hb
theorem de_shl (ha : DE X c a ma) (hb : DE X c b mb) : DE X c (.BinOp a .LShift b pos) (dOp shlD ma mb) :=
  de_op op_shl (sv_i (g' := fun i j => .int (i * 2 ^ j.toNat)) (fun _ _ _ => .int _) (fun _ _ _ h => h) (fun d e R h => by cases d <;> cases e <;> first | exact ⟨_, _, rfl, rfl⟩ | exact False.elim h)) ha hb
theorem de_shr (ha : DE X c a ma) (hb : DE X c b mb) : DE X c (.BinOp a .RShift b pos) (dOp shrD ma mb) :=
  de_op op_shr (sv_i (g' := fun i j => .int (i / 2 ^ j.toNat)) (fun _ _ _ => .int _) (fun _ _ _ h => h) (fun d e R h => by cases d <;> cases e <;> first | exact ⟨_, _, rfl, rfl⟩ | exact False.elim h)) ha hb
theorem de_band (ha : DE X c a ma) (hb : DE X c b mb) : DE X c (.BinOp a .BitAnd b pos) (dOp andD ma mb) :=
  de_op op_and (sv_i0 (g' := fun i j => .int (Builtin.bitAnd i j)) (fun _ _ _ => .int _) (fun _ _ _ h => h) (fun d e R h => by cases d <;> cases e <;> first | exact ⟨_, _, rfl, rfl⟩ | exact False.elim h)) ha hb
theorem sv_lt {K : PySem.W.Frag} : Serves K c (rI0 fun i j => .bl (decide (i < j))) ltD := sv_i0 (g' := fun i j => .bool (decide (i < j))) (fun _ _ _ => .bl _) (fun _ _ _ h => h) (fun d e R h => by cases d <;> cases e <;> first | exact ⟨_, _, rfl, rfl⟩ | exact False.elim h)
theorem sv_le {K : PySem.W.Frag} : Serves K c (rI0 fun i j => .bl (decide (i ≤ j))) leD := sv_i0 (g' := fun i j => .bool (decide (i ≤ j))) (fun _ _ _ => .bl _) (fun _ _ _ h => h) (fun d e R h => by cases d <;> cases e <;> first | exact ⟨_, _, rfl, rfl⟩ | exact False.elim h)
theorem sv_gt {K : PySem.W.Frag} : Serves K c (rI0 fun i j => .bl (decide (j < i))) gtD := sv_i0 (g' := fun i j => .bool (decide (j < i))) (fun _ _ _ => .bl _) (fun _ _ _ h => h) (fun d e R h => by cases d <;> cases e <;> first | exact ⟨_, _, rfl, rfl⟩ | exact False.elim h)
theorem sv_ge {K : PySem.W.Frag} : Serves K c (rI0 fun i j => .bl (decide (j ≤ i))) geD := sv_i0 (g' := fun i j => .bool (decide (j ≤ i))) (fun _ _ _ => .bl _) (fun _ _ _ h => h) (fun d e R h => by cases d <;> cases e <;> first | exact ⟨_, _, rfl, rfl⟩ | exact False.elim h)
theorem de_lt (ha : DE X c a ma) (hb : DE X c b mb) : DE X c (.Compare a [.Lt] [b] pos) (dOp ltD ma mb) := de_cmp op_lt sv_lt ha hb (nomark _)
theorem de_le (ha : DE X c a ma) (hb : DE X c b mb) : DE X c (.Compare a [.LtE] [b] pos) (dOp leD ma mb) := de_cmp op_le sv_le ha hb (nomark _)
theorem de_gt (ha : DE X c a ma) (hb : DE X c b mb) : DE X c (.Compare a [.Gt] [b] pos) (dOp gtD ma mb) := de_cmp op_gt sv_gt ha hb (nomark _)
theorem de_ge (ha : DE X c a ma) (hb : DE X c b mb) : DE X c (.Compare a [.GtE] [b] pos) (dOp geD ma mb) := de_cmp op_ge sv_ge ha hb (nomark _)
theorem dt_lt (ha : DE X c a ma) (hb : DE X c b mb) : DT X c (.Compare a [.Lt] [b] pos) (dT (dOp ltD ma mb)) := dt_cmp op_lt sv_lt ha hb (nomark _)
theorem dt_le (ha : DE X c a ma) (hb : DE X c b mb) : DT X c (.Compare a [.LtE] [b] pos) (dT (dOp leD ma mb)) := dt_cmp op_le sv_le ha hb (nomark _)
theorem dt_gt (ha : DE X c a ma) (hb : DE X c b mb) : DT X c (.Compare a [.Gt] [b] pos) (dT (dOp gtD ma mb)) := dt_cmp op_gt sv_gt ha hb (nomark _)
theorem dt_ge (ha : DE X c a ma) (hb : DE X c b mb) : DT X c (.Compare a [.GtE] [b] pos) (dT (dOp geD ma mb)) := dt_cmp op_ge sv_ge ha hb (nomark _)
theorem Reps.replicate {K : PySem.W.Frag} {F : Hp} {ds : List D} {vs : List V} (h : Reps K F vs ds) : ∀ n : Nat, Reps K F (List.replicate n vs).flatten (List.replicate n ds).flatten
  | 0 => .nil
  | n + 1 => by
    rw [List.replicate_succ, List.replicate_succ, List.flatten_cons, List.flatten_cons]
    exact h.append (Reps.replicate h n)
theorem rep_flat_len {α : Type} (xs : List α) (n : Nat) : (List.replicate n xs).flatten.length = n * xs.length := by
  induction n with
  | zero => simp
  | succ n ih => rw [List.replicate_succ, List.flatten_cons, List.length_append, ih, Nat.succ_mul, Nat.add_comm]
section
open PyProof.Rows
set_option maxHeartbeats 4000000 in
theorem tuple_mulW1 (l : Addr) (items : Array Value) (n : Nat) (dd : Option Addr) (sl : Array (Option Value)) (x : Int) (u : Tok) (c0 : (decide (x < -(2 ^ 63)) || decide (x ≥ 2 ^ 63)) = false) (c1 : (items.isEmpty || x == 1) = true) :
    Meets (Builtin.«tuple.__mul__» ⟨[.ref l, .int x u], []⟩) (fun _ R s => s.heap.get? l = some { cls := .type "tuple", dict := dd, data := .seq items n, slots := sl } ∧ R (.ok (.ret (Value.ref l))) { s with heap := s.heap, toks := s.toks }) :=
  .of_wp fun prog w A R s h => by
    obtain ⟨hp, g, d, tk, os⟩ := s
    obtain ⟨hl, h⟩ := h
    have f1 := AutoSeq1.idx_int
    have f2 := AutoSeq1.sub_tuple_tuple
    wp_walk using wpAny_loadPart' hl
    repeat (first
      | (refine wpAny_ite_false (decide_eq_false (by rw [c0]; exact Bool.false_ne_true)) ?_; wp_walk using wpAny_loadPart' hl)
      | (refine wpAny_ite_true (decide_eq_true c1) ?_; wp_walk using wpAny_loadPart' hl))
    exact ⟨_, rfl, h⟩
def rRep1 (K : PySem.W.Frag) : R2 := fun x y H Q => ∃ l xs, x = .ref l ∧ y = .int 1 ∧ SqT K H l xs ∧ Q (.ref l) H
set_option maxHeartbeats 4000000 in
theorem op_rep1 {X : Cx} : OpR X (binaryOp .Mult) (rRep1 X.K) := by
  intro pins s σ H x y v u Q I rx ry h
  obtain ⟨l, xs, rfl, rfl, hT, q⟩ := h
  cases rx
  obtain ⟨t, rfl⟩ := ry
  obtain ⟨its, r, ⟨⟨cls, dd, data, sl⟩, ho, hc, n, hd⟩, hs⟩ := I.tuple hT
  simp only at hc hd
  subst hc hd
  refine wpAny_binaryOp_repeat_ref (T := "tuple") (U := "int") (by decide) ⟨_, ho, rfl⟩ (fun s' => typeIs_int s' 1 t) noFill_tuple_mul F.fills_int_mul F.slot_int_rmul repeat_tuple F.slot_int_index.lookup
    (call_meets F.slot_int_rmul (typeIs_int s 1 t) F.entry_int_rmul (F.args_int_rmul_2 _ _) (int_rmul_tuple 1 t l its.toArray n dd sl)
      ⟨ho, rfl, ⟨_, ho, rfl⟩, call_meets F.slot_tuple_mul ⟨_, ho, rfl⟩ F.entry_tuple_mul (F.args_tuple_mul_2 _ _) (tuple_mulW1 l its.toArray n dd sl 1 t (by decide) (by simp)) ⟨ho, ?_⟩⟩)
  exact ⟨.ref l, H, I, rfl, q⟩
end
theorem sv_mul {K : PySem.W.Frag} : Serves K c (fun x y H Q => rI CMulW (fun i j => .int (i * j)) x y H Q ∨ (rRepT K x y H Q ∨ (rRep1 K x y H Q ∨ rRep x y H Q))) mulD := by
  intro F H x y d e R Q ex rx ry h k
  cases d with
  | int i =>
    cases e with
    | int j => cases rx; cases ry; exact .inl ⟨i, j, rfl, rfl, h.1, k _ h.2 _ F H ex (.int _)⟩
    | _ => exact False.elim h
  | tuple ds =>
    cases e with
    | int n =>
      obtain ⟨p, xs, rfl, h1, h2, h3⟩ := rx.tupI
      cases ry
      obtain ⟨⟨n1, n2, n3, n4⟩, h⟩ := h
      by_cases e1 : n = 1
      · subst e1
        have e2 : (List.replicate (1 : Int).toNat ds).flatten = ds := by simp
        rw [e2] at h
        exact .inr (.inr (.inl ⟨p, xs, rfl, rfl, sqT_mono ex.fh h1, k _ h _ F H ex rx⟩))
      refine .inr (.inl ⟨p, n, xs, rfl, rfl, sqT_mono ex.fh h1, fun z => n1 (h2.nil_iff.mp z), by omega, n3, by rw [h2.len]; exact n4, fun t ht => ?_⟩)
      have hz : (List.replicate n.toNat ds).flatten.length ≤ sizeLine := by
        rw [rep_flat_len, sizeLine_eq]
        have q1 : n.toNat ≤ 1000 := by omega
        have := Nat.mul_le_mul q1 n4
        omega
      obtain ⟨y1, y2⟩ := newTup (ds := (List.replicate n.toNat ds).flatten) ex ht (h2.replicate n.toNat) hz
      exact k _ h _ _ _ y1 y2
    | _ => exact False.elim h
  | list ds =>
    cases e with
    | int n =>
      obtain ⟨p, xs, rfl, h1, h2, h3⟩ := rx.lstI
      cases ry
      obtain ⟨⟨n1, n2, n3⟩, h⟩ := h
      refine .inr (.inr (.inr ⟨p, n, xs, rfl, rfl, ex.fh _ _ h1, n1, n2, by rw [h2.len]; exact n3, fun t ht => ?_⟩))
      have hz : (List.replicate n.toNat ds).flatten.length ≤ sizeLine := by
        rw [rep_flat_len, Nat.mul_comm]
        exact n3
      obtain ⟨y1, y2⟩ := newLst (ds := (List.replicate n.toNat ds).flatten) ex ht (h2.replicate n.toNat) hz
      exact k _ h _ _ _ y1 y2
    | _ => exact False.elim h
  | _ => exact False.elim h
theorem de_mul (ha : DE X c a ma) (hb : DE X c b mb) : DE X c (.BinOp a .Mult b pos) (dOp mulD ma mb) := de_op (op_mulW.or (op_repT.or (op_rep1.or op_rep))) sv_mul ha hb

def eqD : D2 := fun d e Q => (SeqAt.shaped d = true ∧ SeqAt.shaped e = true) ∧ Q (.bool (PyData.eqv d e))
def neD : D2 := fun d e Q => (SeqAt.shaped d = true ∧ SeqAt.shaped e = true) ∧ Q (.bool (!PyData.eqv d e))
theorem sv_eq {K : PySem.W.Frag} : Serves K c (rEqD K) eqD := fun F H x y d e R Q ex rx ry h k => ⟨d, e, Rep.dp ex.fh d x rx, Rep.dp ex.fh e y ry, h.1.1, h.1.2, k _ h.2 _ F H ex (.bl _)⟩
theorem sv_ne {K : PySem.W.Frag} : Serves K c (rNeD K) neD := fun F H x y d e R Q ex rx ry h k => ⟨d, e, Rep.dp ex.fh d x rx, Rep.dp ex.fh e y ry, h.1.1, h.1.2, k _ h.2 _ F H ex (.bl _)⟩
theorem de_eq (hu : X.A.units + 64 < cLine) (ha : DE X c a ma) (hb : DE X c b mb) : DE X c (.Compare a [.Eq] [b] pos) (dOp eqD ma mb) := de_cmp (op_eqD hu) sv_eq ha hb (nomark _)
theorem de_ne (hu : X.A.units + 64 < cLine) (ha : DE X c a ma) (hb : DE X c b mb) : DE X c (.Compare a [.NotEq] [b] pos) (dOp neD ma mb) := de_cmp (op_neD hu) sv_ne ha hb (nomark _)
theorem dt_eq (hu : X.A.units + 64 < cLine) (ha : DE X c a ma) (hb : DE X c b mb) : DT X c (.Compare a [.Eq] [b] pos) (dT (dOp eqD ma mb)) := dt_cmp (op_eqD hu) sv_eq ha hb (nomark _)
theorem dt_ne (hu : X.A.units + 64 < cLine) (ha : DE X c a ma) (hb : DE X c b mb) : DT X c (.Compare a [.NotEq] [b] pos) (dT (dOp neD ma mb)) := dt_cmp (op_neD hu) sv_ne ha hb (nomark _)
def isNon : D → Bool
  | .none => true
  | _ => false
theorem Rep.non_iff {K : PySem.W.Frag} {F : Hp} {v : V} {d : D} (h : Rep K F v d) : decide (v = .non) = isNon d := by cases h <;> simp [isNon]
def isD : D2 := fun d e Q => match e with | .none => Q (.bool (isNon d)) | _ => False
def isNotD : D2 := fun d e Q => match e with | .none => Q (.bool (!isNon d)) | _ => False
theorem sv_is {K : PySem.W.Frag} : Serves K c (fun x y H Q => y = .non ∧ Q (.bl (decide (x = .non))) H) isD := fun F H x y d e R Q ex rx ry h k => by
  cases e with
  | none => cases ry; exact ⟨rfl, by rw [rx.non_iff]; exact k _ h _ F H ex (.bl _)⟩
  | _ => exact False.elim h
theorem sv_isNot {K : PySem.W.Frag} : Serves K c (fun x y H Q => y = .non ∧ Q (.bl (!decide (x = .non))) H) isNotD := fun F H x y d e R Q ex rx ry h k => by
  cases e with
  | none => cases ry; exact ⟨rfl, by rw [rx.non_iff]; exact k _ h _ F H ex (.bl _)⟩
  | _ => exact False.elim h
theorem de_is (ha : DE X c a ma) (hb : DE X c b mb) : DE X c (.Compare a [.Is] [b] pos) (dOp isD ma mb) := de_cmp op_isN sv_is ha hb (nomark _)
theorem dt_is (ha : DE X c a ma) (hb : DE X c b mb) : DT X c (.Compare a [.Is] [b] pos) (dT (dOp isD ma mb)) := dt_cmp op_isN sv_is ha hb (nomark _)
theorem de_isNot (ha : DE X c a ma) (hb : DE X c b mb) : DE X c (.Compare a [.IsNot] [b] pos) (dOp isNotD ma mb) := de_cmp op_notN sv_isNot ha hb (nomark _)
theorem dt_isNot (ha : DE X c a ma) (hb : DE X c b mb) : DT X c (.Compare a [.IsNot] [b] pos) (dT (dOp isNotD ma mb)) := dt_cmp op_notN sv_isNot ha hb (nomark _)
def flatD : D → Bool
  | .none => true
  | .bool _ => true
  | .int _ => true
  | .str _ => true
  | _ => false
theorem Rep.flat {K : PySem.W.Frag} {F : Hp} {v : V} {d : D} (h : Rep K F v d) : flatV v = flatD d := by cases h <;> rfl
theorem Rep.eqV {K : PySem.W.Frag} {F : Hp} {v u : V} {d e : D} (h : Rep K F v d) (g : Rep K F u e) (f1 : flatD d = true) (f2 : flatD e = true) : L2.eqV v u = PyData.eqv d e := by
  cases h <;> cases g <;> first | rfl | (cases f1) | (cases f2)
theorem Reps.allFlat {K : PySem.W.Frag} {F : Hp} : ∀ {ds : List D} {vs : List V}, Reps K F vs ds → vs.all flatV = ds.all flatD
  | [], _, h => by cases h; rfl
  | d :: ds, _, h => by
    cases h with
    | cons h1 h2 => simp [h1.flat, Reps.allFlat h2]
def memD (d : D) (ds : List D) : Bool := ds.any fun y => PyData.eqv y d
theorem Reps.inV {K : PySem.W.Frag} {F : Hp} {u : V} {d : D} (g : Rep K F u d) (f : flatD d = true) : ∀ {ds : List D} {vs : List V}, Reps K F vs ds → ds.all flatD = true → L2.inV u vs = memD d ds
  | [], _, h, _ => by cases h; rfl
  | e :: ds, _, h, hf => by
    cases h with
    | cons h1 h2 =>
      rw [List.all_cons, Bool.and_eq_true] at hf
      have q := Reps.inV g f h2 hf.2
      unfold L2.inV memD at q ⊢
      rw [List.any_cons, List.any_cons, q, h1.eqV g hf.1 f]
def itemsD : D → Option (List D)
  | .list ds => some ds
  | .tuple ds => some ds
  | _ => none
theorem Rep.seq {K : PySem.W.Frag} {F : Hp} {v : V} {d : D} {ds : List D} (h : Rep K F v d) (e : itemsD d = some ds) : ∃ a xs, v = .ref a ∧ (SqL K F a xs ∨ SqT K F a xs) ∧ Reps K F xs ds ∧ ds.length ≤ sizeLine := by
  cases d with
  | list es =>
    cases e
    obtain ⟨a, xs, rfl, h1, h2, h3⟩ := h.lstI
    exact ⟨a, xs, rfl, .inl (SqL.of h1), h2, h3⟩
  | tuple es =>
    cases e
    obtain ⟨a, xs, rfl, h1, h2, h3⟩ := h.tupI
    exact ⟨a, xs, rfl, .inr h1, h2, h3⟩
  | _ => cases e
/-- x in xs: flat items of a list or tuple; a text in a text -/
def inD (neg : Bool) : D2 := fun d e Q => match itemsD e with
  | some ds => (flatD d = true ∧ ds.all flatD = true) ∧ Q (.bool (if neg then !memD d ds else memD d ds))
  | none => match d, e with
    | .str i, .str j => Q (.bool (if neg then !(!(Builtin.Str.occurrences j i 0 j.length 1).isEmpty) else (!(Builtin.Str.occurrences j i 0 j.length 1).isEmpty)))
    | _, _ => False
theorem sv_in {K : PySem.W.Frag} {neg : Bool} : Serves K c (fun x y H Q => rIn K neg x y H Q ∨ ∃ i j, x = .str i ∧ y = .str j ∧ Q (.bl (if neg then !(!(Builtin.Str.occurrences j i 0 j.length 1).isEmpty) else (!(Builtin.Str.occurrences j i 0 j.length 1).isEmpty))) H) (inD neg) := by
  intro F H x y d e R Q ex rx ry h k
  unfold inD at h
  split at h
  · rename_i ds es
    obtain ⟨p, ys, rfl, h1, h2, h3⟩ := ry.seq es
    obtain ⟨⟨f1, f2⟩, h⟩ := h
    refine .inl ⟨p, ys, rfl, h1.imp (sqL_mono ex.fh) (sqT_mono ex.fh), by rw [rx.flat]; exact f1, by rw [h2.allFlat]; exact f2, ?_⟩
    rw [h2.inV rx f1 f2]
    exact k _ h _ F H ex (.bl _)
  · split at h
    · cases rx; cases ry
      exact .inr ⟨_, _, rfl, rfl, k _ h _ F H ex (.bl _)⟩
    · exact False.elim h
theorem op_inA : OpR X (compareOp .In) (fun x y H Q => rIn X.K false x y H Q ∨ ∃ i j, x = .str i ∧ y = .str j ∧ Q (.bl (if false = true then !(!(Builtin.Str.occurrences j i 0 j.length 1).isEmpty) else (!(Builtin.Str.occurrences j i 0 j.length 1).isEmpty))) H) := op_in_seq.or op_in_str
theorem op_notInA : OpR X (compareOp .NotIn) (fun x y H Q => rIn X.K true x y H Q ∨ ∃ i j, x = .str i ∧ y = .str j ∧ Q (.bl (if true = true then !(!(Builtin.Str.occurrences j i 0 j.length 1).isEmpty) else (!(Builtin.Str.occurrences j i 0 j.length 1).isEmpty))) H) := op_notIn_seq.or op_notin_str
theorem de_in (ha : DE X c a ma) (hb : DE X c b mb) (hm : behindInMarks .In b = false := by rfl) : DE X c (.Compare a [.In] [b] pos) (dOp (inD false) ma mb) := de_cmp op_inA sv_in ha hb hm
theorem dt_in (ha : DE X c a ma) (hb : DE X c b mb) (hm : behindInMarks .In b = false := by rfl) : DT X c (.Compare a [.In] [b] pos) (dT (dOp (inD false) ma mb)) := dt_cmp op_inA sv_in ha hb hm
theorem de_notIn (ha : DE X c a ma) (hb : DE X c b mb) (hm : behindInMarks .NotIn b = false := by rfl) : DE X c (.Compare a [.NotIn] [b] pos) (dOp (inD true) ma mb) := de_cmp op_notInA sv_in ha hb hm
theorem dt_notIn (ha : DE X c a ma) (hb : DE X c b mb) (hm : behindInMarks .NotIn b = false := by rfl) : DT X c (.Compare a [.NotIn] [b] pos) (dT (dOp (inD true) ma mb)) := dt_cmp op_notInA sv_in ha hb hm

def negD (d : D) (Q : D → Prop) : Prop := match d with | .int i => Q (.int (-i)) | _ => False
def dNeg (m : DTE) (en : En) (Q : D → Prop) : Prop := m en fun d => negD d Q
theorem de_neg (ha : DE X c a ma) : DE X c (.UnaryOp .USub a pos) (dNeg ma) := by
  refine ⟨PE.imp (pe_un un_neg ha.run) fun σ H Q h => ?_⟩
  obtain ⟨F, en, R, r, h, k⟩ := h
  refine ⟨F, en, _, r, h, fun d hd v F' H' x rv => ?_⟩
  cases d with
  | int i => cases rv; exact ⟨i, rfl, k _ hd _ F' H' x (.int _)⟩
  | _ => exact False.elim hd
def notD (d : D) (Q : D → Prop) : Prop := asB d fun b => Q (.bool (!b))
def dNot (m : DTE) (en : En) (Q : D → Prop) : Prop := m en fun d => notD d Q
theorem de_not (ha : DE X c a ma) : DE X c (.UnaryOp .Not a pos) (dNot ma) := by
  refine ⟨PE.imp (pe_not ha.run) fun σ H Q h => ?_⟩
  obtain ⟨F, en, R, r, h, k⟩ := h
  refine ⟨F, en, _, r, h, fun d hd v F' H' x rv => ?_⟩
  cases d with
  | bool i => cases rv; exact ⟨i, rfl, k _ hd _ F' H' x (.bl _)⟩
  | _ => exact False.elim hd
def dTNot (m : DTT) (en : En) (Q : Bool → Prop) : Prop := m en fun b => Q (!b)
theorem dt_not (ha : DT X c a mt) : DT X c (.UnaryOp .Not a pos) (dTNot mt) := by
  refine ⟨PT.imp (pt_not ha.run) fun σ H Q h => ?_⟩
  obtain ⟨F, en, R, r, h, k⟩ := h
  exact ⟨F, en, _, r, h, fun d hd F' H' x => k _ hd F' H' x⟩
def dAnd (ma mb : DTE) (en : En) (Q : D → Prop) : Prop := ma en fun d => asB d fun b => Cnd b (mb en Q) (Q (.bool false))
def dOr (ma mb : DTE) (en : En) (Q : D → Prop) : Prop := ma en fun d => asB d fun b => Cnd b (Q (.bool true)) (mb en Q)
variable {rest : List Expr}
theorem de_one {op} (h : DE X c a ma) : DE X c (.BoolOp op [a] pos) ma := ⟨pe_one h.run⟩
theorem de_and (ha : DE X c a ma) (hb : DE X c (.BoolOp .And (b :: rest) pos) mb) : DE X c (.BoolOp .And (a :: b :: rest) pos) (dAnd ma mb) := by
  refine ⟨PE.imp (pe_and ha.run hb.run) fun σ H Q h => ?_⟩
  obtain ⟨F, en, R, r, h, k⟩ := h
  refine ⟨F, en, _, r, h, fun d hd v F' H' x rv => ?_⟩
  cases d with
  | bool i =>
    cases rv
    refine ⟨i, rfl, ?_⟩
    cases i with
    | true => exact ⟨F', en, R, r.grow x, hd, fun z hz v' F2 H2 x2 rz => k z hz v' F2 H2 (x.trans x2) rz⟩
    | false => exact k _ hd _ F' H' x (.bl _)
  | _ => exact False.elim hd
theorem de_or (ha : DE X c a ma) (hb : DE X c (.BoolOp .Or (b :: rest) pos) mb) : DE X c (.BoolOp .Or (a :: b :: rest) pos) (dOr ma mb) := by
  refine ⟨PE.imp (pe_or ha.run hb.run) fun σ H Q h => ?_⟩
  obtain ⟨F, en, R, r, h, k⟩ := h
  refine ⟨F, en, _, r, h, fun d hd v F' H' x rv => ?_⟩
  cases d with
  | bool i =>
    cases rv
    refine ⟨i, rfl, ?_⟩
    cases i with
    | false => exact ⟨F', en, R, r.grow x, hd, fun z hz v' F2 H2 x2 rz => k z hz v' F2 H2 (x.trans x2) rz⟩
    | true => exact k _ hd _ F' H' x (.bl _)
  | _ => exact False.elim hd
structure DW (X : Cx) (c : Ct) (e : Expr) (m : DTT) : Prop where
  run : PW X e (liftT X.K c m)
theorem PW.imp {X : Cx} {e : Expr} {t t' : TT} (h : PW X e t) (k : ∀ σ H Q, t' σ H Q → t σ H Q) : PW X e t' := ⟨fun wh pins s σ H Q I q => h.run wh pins s σ H Q I (k _ _ _ q)⟩
theorem DW.dt (h : DW X c e mt) : DT X c e mt := ⟨h.run.pt⟩
def dTAnd (ma mb : DTT) (en : En) (Q : Bool → Prop) : Prop := ma en fun b => Cnd b (mb en Q) (Q false)
def dTOr (ma mb : DTT) (en : En) (Q : Bool → Prop) : Prop := ma en fun b => Cnd b (Q true) (mb en Q)
theorem dw_and1 (ha : DT X c a mt) : DW X c (.BoolOp .And [a] pos) mt := ⟨pw_and1 ha.run⟩
theorem dw_or1 (ha : DT X c a mt) : DW X c (.BoolOp .Or [a] pos) mt := ⟨pw_or1 ha.run⟩
theorem dw_and (ha : DT X c a mt) (hb : DW X c (.BoolOp .And (b :: rest) pos) mu) : DW X c (.BoolOp .And (a :: b :: rest) pos) (dTAnd mt mu) := by
  refine ⟨PW.imp (pw_and ha.run hb.run) fun σ H Q h => ?_⟩
  obtain ⟨F, en, R, r, h, k⟩ := h
  refine ⟨F, en, _, r, h, fun i hd F' H' x => ?_⟩
  cases i with
  | true => exact ⟨F', en, R, r.grow x, hd, fun z hz F2 H2 x2 => k z hz F2 H2 (x.trans x2)⟩
  | false => exact k _ hd F' H' x
theorem dw_or (ha : DT X c a mt) (hb : DW X c (.BoolOp .Or (b :: rest) pos) mu) : DW X c (.BoolOp .Or (a :: b :: rest) pos) (dTOr mt mu) := by
  refine ⟨PW.imp (pw_or ha.run hb.run) fun σ H Q h => ?_⟩
  obtain ⟨F, en, R, r, h, k⟩ := h
  refine ⟨F, en, _, r, h, fun i hd F' H' x => ?_⟩
  cases i with
  | false => exact ⟨F', en, R, r.grow x, hd, fun z hz F2 H2 x2 => k z hz F2 H2 (x.trans x2)⟩
  | true => exact k _ hd F' H' x
def dIf (mt : DTT) (ma mb : DTE) (en : En) (Q : D → Prop) : Prop := mt en fun b => Cnd b (ma en Q) (mb en Q)
theorem de_if {t : Expr} (ht : DT X c t mt) (ha : DE X c a ma) (hb : DE X c b mb) : DE X c (.IfExp t a b pos) (dIf mt ma mb) := by
  refine ⟨PE.imp (pe_ifExp ht.run ha.run hb.run) fun σ H Q h => ?_⟩
  obtain ⟨F, en, R, r, h, k⟩ := h
  refine ⟨F, en, _, r, h, fun i hd F' H' x => ?_⟩
  cases i with
  | false => exact ⟨F', en, R, r.grow x, hd, fun z hz v F2 H2 x2 rz => k z hz v F2 H2 (x.trans x2) rz⟩
  | true => exact ⟨F', en, R, r.grow x, hd, fun z hz v F2 H2 x2 rz => k z hz v F2 H2 (x.trans x2) rz⟩
/-- two comparisons in a chain -/
def dCh (d2 d3 : D2) (ma mb mc : DTE) (en : En) (Q : D → Prop) : Prop := ma en fun x => mb en fun y => d2 x y fun z => asB z fun b => Cnd b (mc en fun w => d3 y w Q) (Q (.bool false))
theorem lift_ch {K : PySem.W.Frag} {r2 r3 : R2} {d2 d3 : D2} {mc : DTE} (sv : Serves K c r2 d2) (sv' : Serves K c r3 d3) {σ : St} {H : Hp} {Q : VK} (h : liftE K c (dCh d2 d3 ma mb mc) σ H Q) : tChain r2 r3 (liftE K c ma) (liftE K c mb) (liftE K c mc) σ H Q := by
  obtain ⟨F, en, R, r, h, k⟩ := h
  refine ⟨F, en, _, r, h, fun d hd v F1 H1 x1 rv => ?_⟩
  refine ⟨F1, en, _, r.grow x1, hd, fun e he u F2 H2 x2 ru => ?_⟩
  refine sv F2 H2 v u d e _ _ x2.self (Rep.mono x2.ff _ _ rv) ru he fun z hz v' F3 H3 x3 rz => ?_
  cases z with
  | bool i =>
    cases rz
    refine ⟨i, rfl, ?_⟩
    cases i with
    | true =>
      refine ⟨F3, en, _, (r.grow (x1.trans x2)).grow x3, hz, fun w hw v4 F4 H4 x4 r4 => ?_⟩
      exact sv' F4 H4 u v4 e w R Q x4.self (Rep.mono x4.ff _ _ (Rep.mono x3.ff _ _ ru)) r4 hw fun z hz v5 F5 H5 x5 r5 => k z hz v5 F5 H5 (x1.trans (x2.trans (x3.trans (x4.trans x5)))) r5
    | false => exact k _ hz _ F3 H3 (x1.trans (x2.trans x3)) (.bl _)
  | _ => exact False.elim hz
variable {cc : Expr} {mc : DTE}
theorem de_ch {op op' : CmpOp} {r2 r3 : R2} {d2 d3 : D2} (ho : OpR X (compareOp op) r2) (ho' : OpR X (compareOp op') r3) (sv : Serves X.K c r2 d2) (sv' : Serves X.K c r3 d3) (ha : DE X c a ma) (hb : DE X c b mb) (hc : DE X c cc mc)
    (hm : lastMarks [op, op'] [b, cc] = false := by with_unfolding_all rfl) : DE X c (.Compare a [op, op'] [b, cc] pos) (dCh d2 d3 ma mb mc) :=
  ⟨PE.imp (pe_chain ho ho' ha.run hb.run hc.run hm) fun _ _ _ h => lift_ch sv sv' h⟩
theorem dt_ch {op op' : CmpOp} {r2 r3 : R2} {d2 d3 : D2} (ho : OpR X (compareOp op) r2) (ho' : OpR X (compareOp op') r3) (sv : Serves X.K c r2 d2) (sv' : Serves X.K c r3 d3) (ha : DE X c a ma) (hb : DE X c b mb) (hc : DE X c cc mc)
    (hm : lastMarks [op, op'] [b, cc] = false := by with_unfolding_all rfl) : DT X c (.Compare a [op, op'] [b, cc] pos) (dT (dCh d2 d3 ma mb mc)) :=
  ⟨PT.imp (pt_chain ho ho' ha.run hb.run hc.run hm) fun _ _ _ h => lift_ch sv sv' (lift_test h)⟩

def dNil (_x : En) (Q : List D → Prop) : Prop := Q []
def dCons (m : DTE) (ml : DTA) (en : En) (Q : List D → Prop) : Prop := m en fun d => ml en fun ds => Q (d :: ds)
theorem da_nil : DA X c [] dNil := ⟨PA.imp pa_nil fun σ H Q ⟨F, en, R, r, h, k⟩ => k _ h _ F H r.ext.self .nil rfl⟩
theorem da_cons (ha : DE X c e m) (hr : DA X c es ml) (hs : starEach (e :: es) X.env = (false, eval e X.env) :: starEach es X.env := by rfl) : DA X c (e :: es) (dCons m ml) := by
  refine ⟨PA.imp (pa_cons ha.run hr.run hs) fun σ H Q h => ?_⟩
  obtain ⟨F, en, R, r, h, k⟩ := h
  refine ⟨F, en, _, r, h, fun d hd v F1 H1 x1 rv => ?_⟩
  refine ⟨F1, en, _, r.grow x1, hd, fun ds he vs F2 H2 x2 ru hn => ?_⟩
  exact k _ he _ F2 H2 (x1.trans x2) (.cons (Rep.mono x2.ff _ _ rv) ru) (by rw [List.length_cons, hn, List.length_cons])
def dTup (ml : DTA) (en : En) (Q : D → Prop) : Prop := ml en fun ds => Q (.tuple ds)
def dLst (ml : DTA) (en : En) (Q : D → Prop) : Prop := ml en fun ds => Q (.list ds)
theorem de_tup {x1} (h : DA X c es ml) (hz : es.length ≤ sizeLine := by decide) : DE X c (.Tuple es x1 pos) (dTup ml) := by
  refine ⟨PE.imp (pe_tup h.run) fun σ H Q h => ?_⟩
  obtain ⟨F, en, R, r, h, k⟩ := h
  refine ⟨F, en, _, r, h, fun ds hd vs F1 H1 x1 rv hn => ?_⟩
  refine ⟨by rw [hn]; exact hz, fun p hp => ?_⟩
  obtain ⟨y1, y2⟩ := newTup (ds := ds) x1.self hp rv (by rw [← rv.len, hn]; exact hz)
  exact k _ hd _ _ _ (x1.trans y1) y2
theorem de_lst (h : DA X c es ml) (hz : es.length ≤ sizeLine := by decide) : DE X c (.List es pos) (dLst ml) := by
  refine ⟨PE.imp (pe_lst h.run) fun σ H Q h => ?_⟩
  obtain ⟨F, en, R, r, h, k⟩ := h
  refine ⟨F, en, _, r, h, fun ds hd vs F1 H1 x1 rv hn => ?_⟩
  refine ⟨by rw [hn]; exact hz, fun p hp => ?_⟩
  obtain ⟨y1, y2⟩ := newLst (ds := ds) x1.self hp rv (by rw [← rv.len, hn]; exact hz)
  exact k _ hd _ _ _ (x1.trans y1) y2
end
end Lay
namespace Lay
open PySem PySem.Spec L2
open PyProof.Rows hiding St

section
variable {X : Cx} {c : Ct} {e a b : Expr} {es : List Expr} {m ma mb : DTE} {ml : DTA} {mt mu : DTT} {pos : Pos}

def optD (o : Option D) (Q : D → Prop) : Prop := match o with | some d => Q d | none => False
def ixL (ds : List D) (e : D) (Q : D → Prop) : Prop := match e with | .int i => optD (atI ds i) Q | _ => False
def ixD : D2 := fun d e Q => match d with
  | .list ds => ixL ds e Q
  | .tuple ds => ixL ds e Q
  | .str z => match e with
    | .int i => z.length ≤ sizeLine ∧ (match atI z.cps.toList i with | some ch => Q (.str ⟨#[ch]⟩) | none => False)
    | _ => False
  | _ => False
theorem Reps.atI {K : PySem.W.Frag} {F : Hp} {ds : List D} {vs : List V} {i : Int} {d : D} (h : Reps K F vs ds) (e : L2.atI ds i = some d) : ∃ v, L2.atI vs i = some v ∧ Rep K F v d := by
  unfold L2.atI at e ⊢
  rw [h.len]
  cases q : ixN ds.length i with
  | none => rw [q] at e; cases e
  | some j =>
    rw [q] at e
    exact h.get e
theorem ixL_inv {ds : List D} {e : D} {Q : D → Prop} (h : ixL ds e Q) : ∃ i d, e = .int i ∧ atI ds i = some d ∧ Q d := by
  unfold ixL at h
  split at h
  · unfold optD at h
    split at h
    · exact ⟨_, _, rfl, by assumption, h⟩
    · exact h.elim
  · exact h.elim
theorem sv_ix {K : PySem.W.Frag} : Serves K c (rIx K) ixD := by
  intro F H x y d e R Q ex rx ry h k
  unfold ixD at h
  split at h
  · obtain ⟨i, z, rfl, h1, h2⟩ := ixL_inv h
    obtain ⟨p, xs, rfl, g1, g2, g3⟩ := rx.lstI
    obtain ⟨v, q1, q2⟩ := g2.atI h1
    cases ry
    exact .inl ⟨p, xs, i, v, rfl, rfl, SqL.of (ex.fh _ _ g1), q1, k _ h2 _ F H ex q2⟩
  · obtain ⟨i, z, rfl, h1, h2⟩ := ixL_inv h
    obtain ⟨p, xs, rfl, g1, g2, g3⟩ := rx.tupI
    obtain ⟨v, q1, q2⟩ := g2.atI h1
    cases ry
    exact .inr (.inl ⟨p, xs, i, v, rfl, rfl, sqT_mono ex.fh g1, q1, k _ h2 _ F H ex q2⟩)
  · split at h
    · obtain ⟨hz, h⟩ := h
      split at h
      · cases rx; cases ry
        exact .inr (.inr ⟨_, _, _, rfl, rfl, hz, by assumption, k _ h _ F H ex (.str _)⟩)
      · exact h.elim
    · exact h.elim
  · exact h.elim
theorem de_ix (ha : DE X c a ma) (hb : DE X c b mb) (hs : PlainIx b := by exact fun _ _ => rfl) : DE X c (.Subscript a b pos) (dOp ixD ma mb) :=
  ⟨PE.imp (pe_ix ix_seq ha.run hb.run hs) fun _ _ _ h => lift_two sv_ix h⟩
/-- x[e], x a list of the def's own -/
def dIxO (i : Nat) (m : DTE) (en : En) (Q : D → Prop) : Prop := onOwn (gt en i) fun ds => m en fun d => ixL ds d Q
theorem de_ixO {i : Nat} {x : Str} {px : Pos} (hN : X.N[i]? = some x) (hv : Vis X.env.scope x) (hb : DE X c b mb) (hs : PlainIx b := by exact fun _ _ => rfl) (hd : (x == ("__debug__" : Str)) = false := by decide) (hcd : (x == ("__classdict__" : Str)) = false := by decide) :
    DE X c (.Subscript (.Name x px) b pos) (dIxO i mb) := by
  refine ⟨PE.imp (pe_ix ix_seq (pe_var hN hv hd hcd) hb.run hs) fun σ H Q h => ?_⟩
  obtain ⟨F, en, R, r, h, k⟩ := h
  unfold dIxO onOwn at h
  split at h
  · rename_i ds hg
    obtain ⟨ov, e1, p, vs, e2, e3, e4, e5⟩ := r.sl i _ (gt_get hg (fun z => nomatch z))
    subst e2
    refine ⟨_, e1, F, en, _, r, h, fun d hd v F' H' x rv => ?_⟩
    obtain ⟨j, z, rfl, h1, h2⟩ := ixL_inv hd
    obtain ⟨u, q1, q2⟩ := (Reps.mono x.ff _ _ e4).atI h1
    cases rv
    exact .inl ⟨p, vs, j, u, rfl, rfl, SqL.of (x.hh _ _ e3 (r.notW ⟨e1, _, gt_get hg (fun z => nomatch z), rfl⟩)), q1, k _ h2 _ F' H' x q2⟩
  · exact h.elim

def liftO (K : PySem.W.Frag) (c : Ct) (m : En → (Option Int → Prop) → Prop) : TO := fun σ H Q => ∃ F en R, SR K c F σ H en ∧ m en R ∧ ∀ o, R o → ∀ F' H', Ext c.wo F H F' H' → Q o H'
structure DO (X : Cx) (c : Ct) (e : Option Expr) (m : En → (Option Int → Prop) → Prop) : Prop where
  run : PO X e (liftO X.K c m)
def onInt (d : D) (K : Int → Prop) : Prop := match d with | .int i => K i | _ => False
def dNo (_x : En) (Q : Option Int → Prop) : Prop := Q none
def dPt (m : DTE) (en : En) (Q : Option Int → Prop) : Prop := m en fun d => onInt d fun i => Q (some i)
theorem PO.imp {X : Cx} {e : Option Expr} {t t' : TO} (h : PO X e t) (k : ∀ σ H Q, t' σ H Q → t σ H Q) : PO X e t' := ⟨fun pins s σ H Q I q => h.run pins s σ H Q I (k _ _ _ q)⟩
theorem do_none : DO X c none dNo := ⟨PO.imp po_none fun σ H Q ⟨F, en, R, r, h, k⟩ => k _ h F H r.ext.self⟩
theorem do_some (he : DE X c e m) : DO X c (some e) (dPt m) := by
  refine ⟨PO.imp (po_some he.run) fun σ H Q h => ?_⟩
  obtain ⟨F, en, R, r, h, k⟩ := h
  refine ⟨F, en, _, r, h, fun d hd v F' H' x rv => ?_⟩
  cases d with
  | int i => cases rv; exact ⟨i, rfl, k _ hd F' H' x⟩
  | _ => exact False.elim hd
def cutL {α : Type} (xs : List α) (lo hi : Option Int) : List α := (xs.drop (HT.sIx xs.length 0 lo)).take (HT.sIx xs.length xs.length hi - HT.sIx xs.length 0 lo)
theorem cutL_length {α : Type} (xs : List α) (lo hi : Option Int) : (cutL xs lo hi).length ≤ xs.length := by
  unfold cutL
  rw [List.length_take, List.length_drop]
  omega
theorem Reps.cut {K : PySem.W.Frag} {F : Hp} {ds : List D} {vs : List V} (h : Reps K F vs ds) (lo hi : Option Int) : Reps K F (cutV vs lo hi) (cutL ds lo hi) := by
  unfold cutV cutL
  rw [h.len]
  exact (h.drop _).take _
def slD (d : D) (lo hi : Option Int) (Q : D → Prop) : Prop := match d with
  | .list ds => Q (.list (cutL ds lo hi))
  | .tuple ds => Q (.tuple (cutL ds lo hi))
  | .str z => z.length ≤ sizeLine ∧ Q (.str (cutS z lo hi))
  | _ => False
def dSl (m : DTE) (ml mh : En → (Option Int → Prop) → Prop) (en : En) (Q : D → Prop) : Prop := m en fun d => ml en fun lo => mh en fun hi => slD d lo hi Q
theorem cutV_whole {α : Type} {xs : List α} {lo hi : Option Int} (h : HT.sIx xs.length 0 lo = 0 ∧ HT.sIx xs.length xs.length hi = xs.length) : cutL xs lo hi = xs := by
  unfold cutL
  rw [h.1, h.2]
  simp
theorem de_slice {lo hi : Option Expr} {p2 : Pos} {tl th : En → (Option Int → Prop) → Prop} (he : DE X c e m) (hl : DO X c lo tl) (hh : DO X c hi th) : DE X c (.Subscript e (.Slice lo hi none p2) pos) (dSl m tl th) := by
  refine ⟨PE.imp (pe_slice (sl_list.or (sl_tupA.or sl_str)) he.run hl.run hh.run) fun σ H Q h => ?_⟩
  obtain ⟨F, en, R, r, h, k⟩ := h
  refine ⟨F, en, _, r, h, fun d hd v F1 H1 x1 rv => ?_⟩
  refine ⟨F1, en, _, r.grow x1, hd, fun l h2 F2 H2 x2 => ?_⟩
  refine ⟨F2, en, _, (r.grow x1).grow x2, h2, fun u h3 F3 H3 x3 => ?_⟩
  have rv := Rep.mono x3.ff _ _ (Rep.mono x2.ff _ _ rv)
  have x := x1.trans (x2.trans x3)
  have xs := x.self
  unfold slD at h3
  split at h3
  · obtain ⟨p, ys, rfl, g1, g2, g3⟩ := rv.lstI
    refine .inl ⟨p, ys, rfl, SqL.of (x.fh _ _ g1), fun t ht => ?_⟩
    obtain ⟨y1, y2⟩ := newLst (c := c) xs ht (g2.cut l u) (Nat.le_trans (cutL_length _ _ _) g3)
    exact k _ h3 _ _ _ (x.trans y1) y2
  · rename_i ds
    obtain ⟨p, ys, rfl, g1, g2, g3⟩ := rv.tupI
    refine .inr (.inl ⟨p, ys, rfl, sqT_mono x.fh g1, fun w => ?_, fun w t ht => ?_⟩)
    · rw [g2.len] at w
      rw [cutV_whole w] at h3
      exact k _ h3 _ _ _ x rv
    · obtain ⟨y1, y2⟩ := newTup (c := c) xs ht (g2.cut l u) (Nat.le_trans (cutL_length _ _ _) g3)
      exact k _ h3 _ _ _ (x.trans y1) y2
  · cases rv
    exact .inr (.inr ⟨_, rfl, h3.1, k _ h3.2 _ _ _ x (.str _)⟩)
  · exact h3.elim

abbrev DC := List D → (D → Prop) → Prop
def ServesC (K : PySem.W.Frag) (c : Ct) (r : List V → Hp → VK → Prop) (d : DC) : Prop :=
  ∀ (F H : Hp) (vs : List V) (ds : List D) (R : D → Prop) (Q : VK), Ext c.wo F H F H → Reps K F vs ds → d ds R → (∀ z, R z → ∀ v F' H', Ext c.wo F H F' H' → Rep K F' v z → Q v H') → r vs H Q
def dB (d : DC) (ml : DTA) (en : En) (Q : D → Prop) : Prop := ml en fun ds => d ds Q
theorem lift_cb {K : PySem.W.Frag} {r : List V → Hp → VK → Prop} {d : DC} {n : Nat} (sv : ServesC K c r d) {σ : St} {H : Hp} {Q : VK} (h : liftE K c (dB d ml) σ H Q) : tCB r (liftA K c n ml) σ H Q := by
  obtain ⟨F, en, R, r, h, k⟩ := h
  refine ⟨F, en, _, r, h, fun ds hd vs F1 H1 x1 rv _ => ?_⟩
  exact sv F1 H1 vs ds R Q x1.self rv hd fun z hz v F' H' x rz => k z hz v F' H' (x1.trans x) rz
theorem de_callB {x : Str} {p : Pos} {id : String} {r : List V → Hp → VK → Prop} {d : DC} (hc : CallR X (.builtin id) r) (sv : ServesC X.K c r d) (hg : Gl X x) (hm : X.mg x = none) (hv : bootBuiltins x = some (.builtin id)) (ha : DA X c (e :: es) ml)
    (hn : x ≠ "__name__" := by decide) (hdb : (x == ("__debug__" : Str)) = false := by decide)
    (he : starEach (e :: es) X.env = (false, eval e X.env) :: starEach es X.env := by rfl) (hpl : (backTo pos (starEach es X.env)).any (·.1) = false := by rfl) : DE X c (.Call (.Name x p) (e :: es) [] pos) (dB d ml) :=
  ⟨PE.imp (pe_callB hc hg hm hv ha.run hn hdb he hpl) fun _ _ _ h => lift_cb sv h⟩
theorem de_callTy {x : Str} {p : Pos} {T : String} {r : List V → Hp → VK → Prop} {d : DC} (hc : CallR X (.type T) r) (sv : ServesC X.K c r d) (hg : Gl X x) (hm : X.mg x = none) (hv : bootBuiltins x = some (.type T)) (ha : DA X c (e :: es) ml)
    (hn : x ≠ "__name__" := by decide) (hdb : (x == ("__debug__" : Str)) = false := by decide)
    (he : starEach (e :: es) X.env = (false, eval e X.env) :: starEach es X.env := by rfl) (hpl : (backTo pos (starEach es X.env)).any (·.1) = false := by rfl) : DE X c (.Call (.Name x p) (e :: es) [] pos) (dB d ml) :=
  ⟨PE.imp (pe_callTy hc hg hm hv ha.run hn hdb he hpl) fun _ _ _ h => lift_cb sv h⟩
theorem Reps.one {K : PySem.W.Frag} {F : Hp} {vs : List V} {d : D} (h : Reps K F vs [d]) : ∃ v, vs = [v] ∧ Rep K F v d := by
  cases h with
  | cons h1 h2 => cases h2; exact ⟨_, rfl, h1⟩
theorem Reps.two {K : PySem.W.Frag} {F : Hp} {vs : List V} {d e : D} (h : Reps K F vs [d, e]) : ∃ v u, vs = [v, u] ∧ Rep K F v d ∧ Rep K F u e := by
  cases h with
  | cons h1 h2 =>
    obtain ⟨u, rfl, h3⟩ := h2.one
    exact ⟨_, _, rfl, h1, h3⟩
/-- abs -/
def absD : DC := fun ds Q => match ds with | [.int i] => Q (.int (i.natAbs : Int)) | _ => False
theorem sv_abs {K : PySem.W.Frag} : ServesC K c (fun xs H Q => ∃ i, xs = [.int i] ∧ Q (.int (if i < 0 then -i else i)) H) absD := by
  intro F H vs ds R Q ex rv h k
  unfold absD at h
  split at h
  · rename_i i
    obtain ⟨v, rfl, r1⟩ := rv.one
    cases r1
    refine ⟨i, rfl, ?_⟩
    have e : (if i < 0 then -i else i) = (i.natAbs : Int) := by split <;> omega
    rw [e]
    exact k _ h _ F H ex (.int _)
  · exact h.elim
theorem de_abs {p : Pos} (hg : Gl X "abs") (hm : X.mg "abs" = none) (ha : DA X c [a] ml) (he : starEach [a] X.env = (false, eval a X.env) :: starEach [] X.env := by rfl) (hpl : (backTo pos (starEach [] X.env)).any (·.1) = false := by rfl) : DE X c (.Call (.Name "abs" p) [a] [] pos) (dB absD ml) :=
  de_callB call_abs sv_abs hg hm boot_abs ha (by decide) (by decide) he hpl
/-- int(..) of an int, a bool -/
def intD : DC := fun ds Q => match ds with | [.int i] => Q (.int i) | [.bool k] => Q (.int (if k then 1 else 0)) | _ => False
theorem sv_int1 {K : PySem.W.Frag} : ServesC K c (fun xs H Q => (∃ i, xs = [.int i] ∧ Q (.int i) H) ∨ ∃ k, xs = [.bl k] ∧ Q (.int (if k then 1 else 0)) H) intD := by
  intro F H vs ds R Q ex rv h k
  unfold intD at h
  split at h
  · obtain ⟨v, rfl, r1⟩ := rv.one
    cases r1
    exact .inl ⟨_, rfl, k _ h _ F H ex (.int _)⟩
  · obtain ⟨v, rfl, r1⟩ := rv.one
    cases r1
    exact .inr ⟨_, rfl, k _ h _ F H ex (.int _)⟩
  · exact h.elim
theorem de_int1 {p : Pos} (hg : Gl X "int") (hm : X.mg "int" = none) (ha : DA X c [a] ml) (he : starEach [a] X.env = (false, eval a X.env) :: starEach [] X.env := by rfl) (hpl : (backTo pos (starEach [] X.env)).any (·.1) = false := by rfl) : DE X c (.Call (.Name "int" p) [a] [] pos) (dB intD ml) :=
  de_callTy call_int1 sv_int1 hg hm boot_int ha (by decide) (by decide) he hpl
/-- len -/
def lenD : DC := fun ds Q => match ds with
  | [.list xs] => Q (.int xs.length)
  | [.tuple xs] => Q (.int xs.length)
  | [.str z] => z.length ≤ sizeLine ∧ Q (.int z.length)
  | _ => False
theorem sv_len {K : PySem.W.Frag} : ServesC K c (fun xs H Q => (∃ p ys, xs = [.ref p] ∧ (SqL K H p ys ∨ SqT K H p ys) ∧ Q (.int ys.length) H) ∨ ∃ z, xs = [.str z] ∧ z.length ≤ sizeLine ∧ Q (.int z.length) H) lenD := by
  intro F H vs ds R Q ex rv h k
  unfold lenD at h
  split at h
  · obtain ⟨v, rfl, r1⟩ := rv.one
    obtain ⟨p, ys, rfl, g1, g2, g3⟩ := r1.lstI
    exact .inl ⟨p, ys, rfl, .inl (SqL.of (ex.fh _ _ g1)), by rw [g2.len]; exact k _ h _ F H ex (.int _)⟩
  · obtain ⟨v, rfl, r1⟩ := rv.one
    obtain ⟨p, ys, rfl, g1, g2, g3⟩ := r1.tupI
    exact .inl ⟨p, ys, rfl, .inr (sqT_mono ex.fh g1), by rw [g2.len]; exact k _ h _ F H ex (.int _)⟩
  · obtain ⟨v, rfl, r1⟩ := rv.one
    cases r1
    exact .inr ⟨_, rfl, h.1, k _ h.2 _ F H ex (.int _)⟩
  · exact h.elim
theorem de_len {p : Pos} (hg : Gl X "len") (hm : X.mg "len" = none) (ha : DA X c [a] ml) (he : starEach [a] X.env = (false, eval a X.env) :: starEach [] X.env := by rfl) (hpl : (backTo pos (starEach [] X.env)).any (·.1) = false := by rfl) : DE X c (.Call (.Name "len" p) [a] [] pos) (dB lenD ml) :=
  de_callB (call_len_seq.or call_len_str) sv_len hg hm PySem.boot_len ha (by decide) (by decide) he hpl
/-- len(x), x a list of the def's own -/
def dLenO (i : Nat) (en : En) (Q : D → Prop) : Prop := onOwn (gt en i) fun ds => Q (.int ds.length)
theorem de_lenO {i : Nat} {x : Str} {p px : Pos} (hg : Gl X "len") (hm : X.mg "len" = none) (hN : X.N[i]? = some x) (hv : Vis X.env.scope x) (hd : (x == ("__debug__" : Str)) = false := by decide) (hcd : (x == ("__classdict__" : Str)) = false := by decide)
    (he : starEach [.Name x px] X.env = (false, eval (.Name x px) X.env) :: starEach [] X.env := by rfl) (hpl : (backTo pos (starEach [] X.env)).any (·.1) = false := by rfl) : DE X c (.Call (.Name "len" p) [.Name x px] [] pos) (dLenO i) := by
  refine ⟨PE.imp (pe_callB call_len_seq hg hm PySem.boot_len (pa_cons (pe_var hN hv hd hcd) pa_nil he) (by decide) (by decide) he hpl) fun σ H Q h => ?_⟩
  obtain ⟨F, en, R, r, h, k⟩ := h
  unfold dLenO onOwn at h
  split at h
  · rename_i ds hg
    obtain ⟨ov, e1, p, vs, e2, e3, e4, e5⟩ := r.sl i _ (gt_get hg (fun z => nomatch z))
    subst e2
    exact ⟨_, e1, p, vs, rfl, .inl (SqL.of e3), by rw [e4.len]; exact k _ h _ F H r.ext.self (.int _)⟩
  · exact h.elim
/-- tuple(..), list(..) of a list or tuple -/
def tupleD : DC := fun ds Q => match ds with | [.list xs] => Q (.tuple xs) | [.tuple xs] => Q (.tuple xs) | _ => False
theorem sv_tuple {K : PySem.W.Frag} : ServesC K c (fun xs H Q => ∃ p ys, xs = [.ref p] ∧ ((SqL K H p ys ∧ ∀ l, H l = none → Q (.ref l) (upd H l (.tup ys))) ∨ (SqT K H p ys ∧ Q (.ref p) H))) tupleD := by
  intro F H vs ds R Q ex rv h k
  unfold tupleD at h
  split at h
  · obtain ⟨v, rfl, r1⟩ := rv.one
    obtain ⟨p, ys, rfl, g1, g2, g3⟩ := r1.lstI
    refine ⟨p, ys, rfl, .inl ⟨SqL.of (ex.fh _ _ g1), fun l hl => ?_⟩⟩
    obtain ⟨y1, y2⟩ := newTup ex hl g2 g3
    exact k _ h _ _ _ y1 y2
  · obtain ⟨v, rfl, r1⟩ := rv.one
    obtain ⟨p, ys, e, g1, g2, g3⟩ := r1.tupI
    subst e
    exact ⟨p, ys, rfl, .inr ⟨sqT_mono ex.fh g1, k _ h _ F H ex r1⟩⟩
  · exact h.elim
theorem de_tuple {p : Pos} (hg : Gl X "tuple") (hm : X.mg "tuple" = none) (ha : DA X c [a] ml) (he : starEach [a] X.env = (false, eval a X.env) :: starEach [] X.env := by rfl) (hpl : (backTo pos (starEach [] X.env)).any (·.1) = false := by rfl) : DE X c (.Call (.Name "tuple" p) [a] [] pos) (dB tupleD ml) :=
  de_callTy call_tuple_of sv_tuple hg hm boot_tuple ha (by decide) (by decide) he hpl
def listD : DC := fun ds Q => match ds with | [.list xs] => Q (.list xs) | [.tuple xs] => Q (.list xs) | _ => False
theorem sv_list {K : PySem.W.Frag} : ServesC K c (fun xs H Q => ∃ p ys, xs = [.ref p] ∧ (SqL K H p ys ∨ SqT K H p ys) ∧ ∀ l, H l = none → Q (.ref l) (upd H l (.lst ys))) listD := by
  intro F H vs ds R Q ex rv h k
  unfold listD at h
  split at h
  · obtain ⟨v, rfl, r1⟩ := rv.one
    obtain ⟨p, ys, rfl, g1, g2, g3⟩ := r1.lstI
    refine ⟨p, ys, rfl, .inl (SqL.of (ex.fh _ _ g1)), fun l hl => ?_⟩
    obtain ⟨y1, y2⟩ := newLst ex hl g2 g3
    exact k _ h _ _ _ y1 y2
  · obtain ⟨v, rfl, r1⟩ := rv.one
    obtain ⟨p, ys, rfl, g1, g2, g3⟩ := r1.tupI
    refine ⟨p, ys, rfl, .inr (sqT_mono ex.fh g1), fun l hl => ?_⟩
    obtain ⟨y1, y2⟩ := newLst ex hl g2 g3
    exact k _ h _ _ _ y1 y2
  · exact h.elim
theorem de_list {p : Pos} (hg : Gl X "list") (hm : X.mg "list" = none) (ha : DA X c [a] ml) (he : starEach [a] X.env = (false, eval a X.env) :: starEach [] X.env := by rfl) (hpl : (backTo pos (starEach [] X.env)).any (·.1) = false := by rfl) : DE X c (.Call (.Name "list" p) [a] [] pos) (dB listD ml) :=
  de_callTy call_list_of sv_list hg hm boot_list ha (by decide) (by decide) he hpl
/-- min, max of two ints -/
def min2D : DC := fun ds Q => match ds with | [.int i, .int j] => Q (.int (if j < i then j else i)) | _ => False
def max2D : DC := fun ds Q => match ds with | [.int i, .int j] => Q (.int (if j > i then j else i)) | _ => False
theorem sv_min2 {K : PySem.W.Frag} : ServesC K c (fun xs H Q => ∃ i j, xs = [.int i, .int j] ∧ Q (.int (if j < i then j else i)) H) min2D := by
  intro F H vs ds R Q ex rv h k
  unfold min2D at h
  split at h
  · obtain ⟨v, u, rfl, r1, r2⟩ := rv.two
    cases r1; cases r2
    exact ⟨_, _, rfl, k _ h _ F H ex (.int _)⟩
  · exact h.elim
theorem sv_max2 {K : PySem.W.Frag} : ServesC K c (fun xs H Q => ∃ i j, xs = [.int i, .int j] ∧ Q (.int (if j > i then j else i)) H) max2D := by
  intro F H vs ds R Q ex rv h k
  unfold max2D at h
  split at h
  · obtain ⟨v, u, rfl, r1, r2⟩ := rv.two
    cases r1; cases r2
    exact ⟨_, _, rfl, k _ h _ F H ex (.int _)⟩
  · exact h.elim
theorem de_min2 {p : Pos} (hc : X.calm = true) (hg : Gl X "min") (hm : X.mg "min" = none) (ha : DA X c [a, b] ml) (he : starEach [a, b] X.env = (false, eval a X.env) :: starEach [b] X.env := by rfl) (hpl : (backTo pos (starEach [b] X.env)).any (·.1) = false := by rfl) : DE X c (.Call (.Name "min" p) [a, b] [] pos) (dB min2D ml) :=
  de_callB (call_min2 hc) sv_min2 hg hm boot_min ha (by decide) (by decide) he hpl
theorem de_max2 {p : Pos} (hc : X.calm = true) (hg : Gl X "max") (hm : X.mg "max" = none) (ha : DA X c [a, b] ml) (he : starEach [a, b] X.env = (false, eval a X.env) :: starEach [b] X.env := by rfl) (hpl : (backTo pos (starEach [b] X.env)).any (·.1) = false := by rfl) : DE X c (.Call (.Name "max" p) [a, b] [] pos) (dB max2D ml) :=
  de_callB (call_max2 hc) sv_max2 hg hm boot_max ha (by decide) (by decide) he hpl
/-- all the items are ints (bools) -/
def intsOf : List D → Option (List Int)
  | [] => some []
  | .int i :: r => (intsOf r).map (i :: ·)
  | _ => none
theorem intsOf_eq : ∀ {ds : List D} {ns : List Int}, intsOf ds = some ns → ds = ns.map .int
  | [], _, h => by cases h; rfl
  | .int i :: r, ns, h => by
    unfold intsOf at h
    cases q : intsOf r with
    | none => rw [q] at h; cases h
    | some ms =>
      rw [q] at h
      cases h
      rw [intsOf_eq q]; rfl
  | .none :: r, _, h => by cases h
  | .bool _ :: r, _, h => by cases h
  | .str _ :: r, _, h => by cases h
  | .list _ :: r, _, h => by cases h
  | .tuple _ :: r, _, h => by cases h
  | .dict _ :: r, _, h => by cases h
theorem intsOf_map : ∀ ns : List Int, intsOf (ns.map .int) = some ns
  | [] => rfl
  | n :: ns => by
    show (intsOf (ns.map .int)).map (n :: ·) = _
    rw [intsOf_map ns]; rfl
def blsOf : List D → Option (List Bool)
  | [] => some []
  | .bool i :: r => (blsOf r).map (i :: ·)
  | _ => none
theorem blsOf_eq : ∀ {ds : List D} {ns : List Bool}, blsOf ds = some ns → ds = ns.map .bool
  | [], _, h => by cases h; rfl
  | .bool i :: r, ns, h => by
    unfold blsOf at h
    cases q : blsOf r with
    | none => rw [q] at h; cases h
    | some ms =>
      rw [q] at h
      cases h
      rw [blsOf_eq q]; rfl
  | .none :: r, _, h => by cases h
  | .int _ :: r, _, h => by cases h
  | .str _ :: r, _, h => by cases h
  | .list _ :: r, _, h => by cases h
  | .tuple _ :: r, _, h => by cases h
  | .dict _ :: r, _, h => by cases h
theorem blsOf_map : ∀ ns : List Bool, blsOf (ns.map .bool) = some ns
  | [] => rfl
  | n :: ns => by
    show (blsOf (ns.map .bool)).map (n :: ·) = _
    rw [blsOf_map ns]; rfl
/-- sum, all, any of a list -/
def sumD : DC := fun ds Q => match ds with | [.list xs] => (match intsOf xs with | some ns => Q (.int ns.sum) | none => False) | _ => False
def allD : DC := fun ds Q => match ds with | [.list xs] => (match blsOf xs with | some ns => Q (.bool (ns.all id)) | none => False) | _ => False
def anyD : DC := fun ds Q => match ds with | [.list xs] => (match blsOf xs with | some ns => Q (.bool (ns.any id)) | none => False) | _ => False
theorem sv_sum {K : PySem.W.Frag} : ServesC K c (rSum K) sumD := by
  intro F H vs ds R Q ex rv h k
  unfold sumD at h
  split at h
  · split at h
    · rename_i ns q
      obtain ⟨v, rfl, r1⟩ := rv.one
      obtain ⟨p, ys, rfl, g1, g2, g3⟩ := r1.lstI
      rw [intsOf_eq q] at g2
      have e := g2.ints_inv
      subst e
      exact ⟨p, ns, rfl, SqL.of (ex.fh _ _ g1), k _ h _ F H ex (.int _)⟩
    · exact h.elim
  · exact h.elim
theorem sv_all {K : PySem.W.Frag} : ServesC K c (rAll K) allD := by
  intro F H vs ds R Q ex rv h k
  unfold allD at h
  split at h
  · split at h
    · rename_i ns q
      obtain ⟨v, rfl, r1⟩ := rv.one
      obtain ⟨p, ys, rfl, g1, g2, g3⟩ := r1.lstI
      rw [blsOf_eq q] at g2
      have e := g2.bls_inv
      subst e
      exact ⟨p, ns, rfl, SqL.of (ex.fh _ _ g1), k _ h _ F H ex (.bl _)⟩
    · exact h.elim
  · exact h.elim
theorem sv_any {K : PySem.W.Frag} : ServesC K c (rAny K) anyD := by
  intro F H vs ds R Q ex rv h k
  unfold anyD at h
  split at h
  · split at h
    · rename_i ns q
      obtain ⟨v, rfl, r1⟩ := rv.one
      obtain ⟨p, ys, rfl, g1, g2, g3⟩ := r1.lstI
      rw [blsOf_eq q] at g2
      have e := g2.bls_inv
      subst e
      exact ⟨p, ns, rfl, SqL.of (ex.fh _ _ g1), k _ h _ F H ex (.bl _)⟩
    · exact h.elim
  · exact h.elim
theorem de_sum {p : Pos} (hc : X.calm = true) (hg : Gl X "sum") (hm : X.mg "sum" = none) (ha : DA X c [a] ml) (he : starEach [a] X.env = (false, eval a X.env) :: starEach [] X.env := by rfl) (hpl : (backTo pos (starEach [] X.env)).any (·.1) = false := by rfl) : DE X c (.Call (.Name "sum" p) [a] [] pos) (dB sumD ml) :=
  de_callB (cr_sum hc) sv_sum hg hm boot_sum ha (by decide) (by decide) he hpl
theorem de_all {p : Pos} (hc : X.calm = true) (hg : Gl X "all") (hm : X.mg "all" = none) (ha : DA X c [a] ml) (he : starEach [a] X.env = (false, eval a X.env) :: starEach [] X.env := by rfl) (hpl : (backTo pos (starEach [] X.env)).any (·.1) = false := by rfl) : DE X c (.Call (.Name "all" p) [a] [] pos) (dB allD ml) :=
  de_callB (cr_all hc) sv_all hg hm boot_all ha (by decide) (by decide) he hpl
theorem de_any {p : Pos} (hc : X.calm = true) (hg : Gl X "any") (hm : X.mg "any" = none) (ha : DA X c [a] ml) (he : starEach [a] X.env = (false, eval a X.env) :: starEach [] X.env := by rfl) (hpl : (backTo pos (starEach [] X.env)).any (·.1) = false := by rfl) : DE X c (.Call (.Name "any" p) [a] [] pos) (dB anyD ml) :=
  de_callB (cr_any hc) sv_any hg hm boot_any ha (by decide) (by decide) he hpl

def tyN : D → String
  | .none => "NoneType"
  | .bool _ => "bool"
  | .int _ => "int"
  | .str _ => "str"
  | .list _ => "list"
  | .tuple _ => "tuple"
  | .dict _ => "dict"
theorem Rep.ty {K : PySem.W.Frag} {F : Hp} {v : V} {d : D} (h : Rep K F v d) : TyX K F v (.type (tyN d)) := by
  cases h with
  | non => exact .base .non
  | bl b => exact .base (.bl b)
  | int i => exact .base (.int i)
  | str x => exact .base (.str x)
  | lst h1 _ _ => exact .base (.lst h1)
  | tup h1 _ _ =>
    rcases h1 with (h1 | ⟨o, h1⟩) | ⟨o, its, n, h1, h2, _⟩
    · exact .base (.tup h1)
    · exact .fTuple h1
    · exact .kTuple h1 h2
theorem TyX.mono {K : PySem.W.Frag} {F H : Hp} (hF : ∀ a o, F a = some o → H a = some o) {v : V} {t : Value} (h : TyX K F v t) : TyX K H v t := by
  cases h with
  | base b =>
    cases b with
    | non => exact .base .non
    | bl y => exact .base (.bl y)
    | int y => exact .base (.int y)
    | str y => exact .base (.str y)
    | flt y => exact .base (.flt y)
    | lst e => exact .base (.lst (hF _ _ e))
    | frz e => exact .base (.frz (hF _ _ e))
    | tup e => exact .base (.tup (hF _ _ e))
    | dK e => exact .base (.dK (hF _ _ e))
    | dT e => exact .base (.dT (hF _ _ e))
    | ins e cl ha hn htk hm => exact .base (.ins (hF _ _ e) cl ha hn htk hm)
  | byt b => exact .byt b
  | set e => exact .set (hF _ _ e)
  | kList e c => exact .kList e c
  | kTuple e c => exact .kTuple e c
  | kDict e c => exact .kDict e c
  | fTuple e => exact .fTuple (hF _ _ e)
  | fDict e => exact .fDict (hF _ _ e)
/-- the class T is one that f tells -/
def Tells (T : String) (f : D → Bool) : Prop := ∀ d, kitB (tyN d) T = some (f d)
def isIntD : D → Bool | .int _ => true | .bool _ => true | _ => false
def isBoolD : D → Bool | .bool _ => true | _ => false
def isStrD : D → Bool | .str _ => true | _ => false
def isTupD : D → Bool | .tuple _ => true | _ => false
def isLstD : D → Bool | .list _ => true | _ => false
theorem tells_int : Tells "int" isIntD
  | .none => (by decide +kernel : kitB "NoneType" "int" = some false)
  | .bool _ => (by decide +kernel : kitB "bool" "int" = some true)
  | .int _ => (by decide +kernel : kitB "int" "int" = some true)
  | .str _ => (by decide +kernel : kitB "str" "int" = some false)
  | .list _ => (by decide +kernel : kitB "list" "int" = some false)
  | .tuple _ => (by decide +kernel : kitB "tuple" "int" = some false)
  | .dict _ => (by decide +kernel : kitB "dict" "int" = some false)
theorem tells_bool : Tells "bool" isBoolD
  | .none => (by decide +kernel : kitB "NoneType" "bool" = some false)
  | .bool _ => (by decide +kernel : kitB "bool" "bool" = some true)
  | .int _ => (by decide +kernel : kitB "int" "bool" = some false)
  | .str _ => (by decide +kernel : kitB "str" "bool" = some false)
  | .list _ => (by decide +kernel : kitB "list" "bool" = some false)
  | .tuple _ => (by decide +kernel : kitB "tuple" "bool" = some false)
  | .dict _ => (by decide +kernel : kitB "dict" "bool" = some false)
theorem tells_str : Tells "str" isStrD
  | .none => (by decide +kernel : kitB "NoneType" "str" = some false)
  | .bool _ => (by decide +kernel : kitB "bool" "str" = some false)
  | .int _ => (by decide +kernel : kitB "int" "str" = some false)
  | .str _ => (by decide +kernel : kitB "str" "str" = some true)
  | .list _ => (by decide +kernel : kitB "list" "str" = some false)
  | .tuple _ => (by decide +kernel : kitB "tuple" "str" = some false)
  | .dict _ => (by decide +kernel : kitB "dict" "str" = some false)
theorem tells_tuple : Tells "tuple" isTupD
  | .none => (by decide +kernel : kitB "NoneType" "tuple" = some false)
  | .bool _ => (by decide +kernel : kitB "bool" "tuple" = some false)
  | .int _ => (by decide +kernel : kitB "int" "tuple" = some false)
  | .str _ => (by decide +kernel : kitB "str" "tuple" = some false)
  | .list _ => (by decide +kernel : kitB "list" "tuple" = some false)
  | .tuple _ => (by decide +kernel : kitB "tuple" "tuple" = some true)
  | .dict _ => (by decide +kernel : kitB "dict" "tuple" = some false)
theorem tells_list : Tells "list" isLstD
  | .none => (by decide +kernel : kitB "NoneType" "list" = some false)
  | .bool _ => (by decide +kernel : kitB "bool" "list" = some false)
  | .int _ => (by decide +kernel : kitB "int" "list" = some false)
  | .str _ => (by decide +kernel : kitB "str" "list" = some false)
  | .list _ => (by decide +kernel : kitB "list" "list" = some true)
  | .tuple _ => (by decide +kernel : kitB "tuple" "list" = some false)
  | .dict _ => (by decide +kernel : kitB "dict" "list" = some false)
def dIsi (f : D → Bool) (m : DTE) (en : En) (Q : D → Prop) : Prop := m en fun d => Q (.bool (f d))
theorem de_isi {x : Str} {T : String} {f : D → Bool} {p q : Pos} (ht : Tells T f) (hg : Gl X "isinstance") (hm : X.mg "isinstance" = none) (hgT : Gl X x) (hmT : X.mg x = none) (hvT : bootBuiltins x = some (.type T)) (ha : DE X c a m)
    (he : starEach [a, .Name x q] X.env = (false, eval a X.env) :: starEach [.Name x q] X.env := by rfl) (hpl : (backTo pos (starEach [.Name x q] X.env)).any (·.1) = false := by rfl) (hn : x ≠ "__name__" := by decide) (hdb : (x == ("__debug__" : Str)) = false := by decide)
    (he2 : starEach [.Name x q] X.env = (false, eval (.Name x q) X.env) :: starEach [] X.env := by rfl) :
    DE X c (.Call (.Name "isinstance" p) [a, .Name x q] [] pos) (dIsi f m) := by
  refine ⟨PE.imp (pe_callB call_isi hg hm boot_isinstance (pa_cons ha.run (pa_cons (pe_bltn (v := .ty T) hgT hmT hvT rfl hn hdb) pa_nil he2) he) (by decide) (by decide) he hpl) fun σ H Q h => ?_⟩
  obtain ⟨F, en, R, r, h, k⟩ := h
  refine ⟨F, en, _, r, h, fun d hd v F' H' x rv => ?_⟩
  exact ⟨v, .ty T, .type (tyN d), .type T, f d, rfl, .ty T, TyX.mono x.fh rv.ty, kit_ty (ht d), k _ hd _ F' H' x (.bl _)⟩

/-- what a def promises, by data -/
abbrev Spec := List D → (D → Prop) → Prop
def liftSp (K : PySem.W.Frag) (n : Nat) (sp : Lay.Spec) : Sp := fun vs H Q _ => ∃ F ds R, vs.length = n ∧ (∀ a o, F a = some o → H a = some o) ∧ Reps K F vs ds ∧ sp ds R ∧ ∀ d, R d → ∀ v F' H', Ext none F H F' H' → Rep K F' v d → Q v H'
def liftSpW (K : PySem.W.Frag) (n : Nat) (sp : Lay.Spec) : Sp := fun vs H Q _ => ∃ (p : Addr × Addr) (us : List V) (F : Hp) (ds : List D) (R : D → Prop), vs = .ref p.1 :: us ∧ us.length = n ∧ (∀ a o, F a = some o → H a = some o) ∧ F p.1 = none ∧ WOk H p ∧
  Reps K F us ds ∧ sp ds R ∧ ∀ d, R d → ∀ v F' H', Ext (some p) F H F' H' → Rep K F' v d → Q v H'
def dCall (sp : Lay.Spec) (ml : DTA) (en : En) (Q : D → Prop) : Prop := ml en fun ds => sp ds Q
theorem de_call {x : Str} {p : Pos} {k : Nat} {f : Addr} {fd : FuncData} {ps : List Str} {sp : Lay.Spec} (G : FnOk X.prog X.w X.K X.mg X.base CX0 k f fd ps (liftSp X.K ps.length sp)) (hr : Room k X.A) (hg : Gl X x) (hm : X.mg x = some (.ref f)) (hk : PySem.W.keepIn X.K (.ref f) = true) (hb : Binds X.K fd ps [])
    (ha : DA X c (e :: es) ml) (hl : (e :: es).length = ps.length := by rfl) (hdb : (x == ("__debug__" : Str)) = false := by decide) (he : starEach (e :: es) X.env = (false, eval e X.env) :: starEach es X.env := by rfl) (hpl : (backTo pos (starEach es X.env)).any (·.1) = false := by rfl) :
    DE X c (.Call (.Name x p) (e :: es) [] pos) (dCall sp ml) := by
  refine ⟨PE.imp (pe_call G hr hg hm hk hb .nil pass0 ha.run hdb he hpl) fun σ H Q h => ?_⟩
  obtain ⟨F, en, R, r, h, k⟩ := h
  refine ⟨F, en, _, r, h, fun ds hd vs F1 H1 x1 rv hn => ?_⟩
  show liftSp X.K ps.length sp (vs ++ []) H1 Q E0
  rw [List.append_nil]
  refine ⟨F1, ds, R, hn.trans hl, x1.fh, rv, hd, fun d hd v F' H' x rd => ?_⟩
  exact k d hd v F' H' (x1.trans (x.pure x1.wk)) rd
/-- f(w, ..): the source handed on -/
def dCallW (i : Nat) (sp : Lay.Spec) (ml : DTA) (en : En) (Q : D → Prop) : Prop := onWv (gt en i) (ml en fun ds => sp ds Q)
theorem de_callW {x y : Str} {i : Nat} {p py : Pos} {k : Nat} {f : Addr} {fd : FuncData} {ps : List Str} {sp : Lay.Spec} (G : FnOk X.prog X.w X.K X.mg X.base CX0 k f fd ps (liftSpW X.K (ps.length - 1) sp)) (hr : Room k X.A) (hg : Gl X x) (hm : X.mg x = some (.ref f)) (hk : PySem.W.keepIn X.K (.ref f) = true) (hb : Binds X.K fd ps [])
    (hN : X.N[i]? = some y) (hv : Vis X.env.scope y) (ha : DA X c es ml) (hl : es.length = ps.length - 1 := by rfl) (hdb : (x == ("__debug__" : Str)) = false := by decide) (he : starEach (.Name y py :: es) X.env = (false, eval (.Name y py) X.env) :: starEach es X.env := by rfl) (hpl : (backTo pos (starEach es X.env)).any (·.1) = false := by rfl)
    (hd : (y == ("__debug__" : Str)) = false := by decide) (hcd : (y == ("__classdict__" : Str)) = false := by decide) :
    DE X c (.Call (.Name x p) (.Name y py :: es) [] pos) (dCallW i sp ml) := by
  refine ⟨PE.imp (pe_call G hr hg hm hk hb .nil pass0 (pa_cons (pe_var hN hv hd hcd) ha.run he) hdb he hpl) fun σ H Q h => ?_⟩
  obtain ⟨F, en, R, r, h, k⟩ := h
  unfold dCallW onWv at h
  split at h
  · rename_i hgt
    obtain ⟨ov, e1, a, e2, da, e3⟩ := r.sl i _ (gt_get hgt (fun z => nomatch z))
    subst e2
    refine ⟨_, e1, F, en, _, r, h, fun ds hd vs F1 H1 x1 rv hn => ?_⟩
    show liftSpW X.K (ps.length - 1) sp ((V.ref a :: vs) ++ []) H1 Q E0
    rw [List.append_nil]
    refine ⟨(a, da), vs, F1, ds, R, rfl, hn.trans hl, x1.fh, (r.grow x1).wn _ e3, x1.wk _ e3, rv, hd, fun d hd v F' H' x rd => ?_⟩
    rw [← e3] at x
    exact k d hd v F' H' (x1.trans x) rd
  · exact h.elim
end
end Lay
namespace Lay
open PySem PySem.Spec L2
open PyProof.Rows hiding St

section
variable {X : Cx} {c : Ct} {e a b : Expr} {es : List Expr} {m ma mb : DTE} {ml : DTA} {mt mu : DTT} {pos : Pos}

abbrev DTG := D → En → (En → Prop) → Prop
abbrev DTGs := List D → En → (En → Prop) → Prop
/-- sl: the slots that the target stores -/
def liftG (K : PySem.W.Frag) (c : Ct) (sl : List Nat) (g : DTG) : TG := fun v σ H Q => ∃ F en d R, SR K c F σ H en ∧ Rep K F v d ∧ g d en R ∧ ∀ en' σ', R en' → SR K c F σ' H en' → (σ'.length = σ.length ∧ ∀ i, i ∉ sl → σ'[i]? = σ[i]?) → Q σ' H
def liftGs (K : PySem.W.Frag) (c : Ct) (sl : List Nat) (g : DTGs) : TGs := fun vs σ H Q => ∃ F en ds R, SR K c F σ H en ∧ Reps K F vs ds ∧ g ds en R ∧ ∀ en' σ', R en' → SR K c F σ' H en' → (σ'.length = σ.length ∧ ∀ i, i ∉ sl → σ'[i]? = σ[i]?) → Q σ' H
structure DG (X : Cx) (c : Ct) (tg : Expr) (sl : List Nat) (g : DTG) : Prop where
  run : PG X tg (liftG X.K c sl g)
structure DGs (X : Cx) (c : Ct) (ts : List Expr) (sl : List Nat) (g : DTGs) : Prop where
  run : PGs X ts (liftGs X.K c sl g)
theorem PG.imp {X : Cx} {e : Expr} {t t' : TG} (h : PG X e t) (k : ∀ v σ H Q, t' v σ H Q → t v σ H Q) : PG X e t' := ⟨fun pins s σ H v u Q I r q => h.run pins s σ H v u Q I r (k _ _ _ _ q)⟩
theorem PGs.imp {X : Cx} {e : List Expr} {t t' : TGs} (h : PGs X e t) (k : ∀ v σ H Q, t' v σ H Q → t v σ H Q) : PGs X e t' := ⟨fun pins s σ H v u Q I r q => h.run pins s σ H v u Q I r (k _ _ _ _ q)⟩
def gNm (i : Nat) (d : D) (en : En) (R : En → Prop) : Prop := R (en.set i (.val d))
theorem dg_name {i : Nat} {x : Str} (hN : X.N.Nodup) (hi : X.N[i]? = some x) (hx : Loc X.env.scope x) (hf : X.fn x = true ∨ X.env.scope.names.lookup x = some .local := by first | exact .inl rfl | exact .inr rfl | assumption) : DG X c (.Name x pos) [i] (gNm i) := by
  refine ⟨PG.imp (pg_name hN hi hx hf) fun v σ H Q h => ?_⟩
  obtain ⟨F, en, d, R, r, rv, h, k⟩ := h
  exact k _ _ h (r.set rv) ⟨List.length_set, fun j hj => List.getElem?_set_ne (fun z => hj (by simp [z]))⟩
def gNl (ds : List D) (en : En) (R : En → Prop) : Prop := match ds with | [] => R en | _ => False
def gCs (g : DTG) (gs : DTGs) (ds : List D) (en : En) (R : En → Prop) : Prop := match ds with | d :: r => g d en fun en' => gs r en' R | [] => False
theorem dgs_nil : DGs X c [] [] gNl := by
  refine ⟨PGs.imp pgs_nil fun v σ H Q h => ?_⟩
  obtain ⟨F, en, ds, R, r, rv, h, k⟩ := h
  cases ds with
  | nil => cases rv; exact ⟨rfl, k _ _ h r ⟨rfl, fun _ _ => rfl⟩⟩
  | cons _ _ => exact False.elim h
theorem dgs_cons {s1 s2 : List Nat} {g : DTG} {gs : DTGs} (h1 : DG X c e s1 g) (h2 : DGs X c es s2 gs) (hs : (assignEach (e :: es) X.env).map (·.2) = assign e X.env :: (assignEach es X.env).map (·.2) := by rfl) : DGs X c (e :: es) (s1 ++ s2) (gCs g gs) := by
  refine ⟨PGs.imp (pgs_cons h1.run h2.run hs) fun v σ H Q h => ?_⟩
  obtain ⟨F, en, ds, R, r, rv, h, k⟩ := h
  cases ds with
  | nil => exact False.elim h
  | cons d ds =>
    cases rv with
    | cons r1 r2 =>
      refine ⟨_, _, rfl, F, en, d, _, r, r1, h, fun en' σ' h' r' k1 => ?_⟩
      refine ⟨F, en', ds, R, r', r2, h', fun en2 σ2 h2 r2 k2 => k _ _ h2 r2 ⟨k2.1.trans k1.1, fun i hi => ?_⟩⟩
      rw [k2.2 i fun z => hi (by simp [z]), k1.2 i fun z => hi (by simp [z])]
def onTup (d : D) (K : List D → Prop) : Prop := match d with | .tuple ds => K ds | _ => False
def gTp (n : Nat) (gs : DTGs) (d : D) (en : En) (R : En → Prop) : Prop := onTup d fun ds => ds.length = n ∧ gs ds en R
theorem dg_tup {k : Nat} {gs : DTGs} {sl : List Nat} {n : Nat} (hc : X.calm = true) (h : DGs X c es sl gs) (hn : (assignEach es X.env).length = n := by rfl) (hst : (assignEach es X.env).findIdx? (·.1) = none := by rfl) : DG X c (.Tuple es k pos) sl (gTp n gs) := by
  refine ⟨PG.imp (pg_tup hc h.run hn hst) fun v σ H Q h => ?_⟩
  obtain ⟨F, en, d, R, r, rv, h, k⟩ := h
  cases d with
  | tuple ds =>
    obtain ⟨p, xs, rfl, g1, g2, g3⟩ := rv.tupI
    exact ⟨p, xs, rfl, sqT_mono r.fh g1, by rw [g2.len]; exact h.1, F, en, ds, R, r, g2, h.2, k⟩
  | _ => exact False.elim h

structure DWalk (K : PySem.W.Frag) (wo : Option (Addr × Addr)) (J : It) (F : Hp) (ds : List D) : Prop where
  go : ∀ (i : Nat) (d : D) F' H, (∀ a o, F a = some o → F' a = some o) → Ext wo F' H F' H → ds[i]? = some d → J.go i H
  yld : ∀ (i : Nat) (d : D) F' H x H', (∀ a o, F a = some o → F' a = some o) → Ext wo F' H F' H → ds[i]? = some d → J.yld i H x H' → ∃ F'', Ext wo F' H F'' H' ∧ Rep K F'' x d
  stop : ∀ F' H, (∀ a o, F a = some o → F' a = some o) → Ext wo F' H F' H → J.stop ds.length H
def liftI (K : PySem.W.Frag) (c : Ct) (z : Bool) (m : DTA) : TI := fun σ H R => ∃ F en Q, SR K c F σ H en ∧ m en Q ∧ ∀ ds, Q ds → ∀ J F' H', Ext c.wo F H F' H' → DWalk K c.wo J F' ds → (z = true → ds.length ≤ sizeLine) → R J H'
/-- z: the items are as many as a list may hold -/
structure DI (X : Cx) (c : Ct) (tg iter : Expr) (z : Bool) (m : DTA) : Prop where
  run : PI X tg iter (liftI X.K c z m)
theorem PI.imp {X : Cx} {tg e : Expr} {t t' : TI} (h : PI X tg e t) (k : ∀ σ H Q, t' σ H Q → t σ H Q) : PI X tg e t' := ⟨fun pins s σ H Q I q => h.run pins s σ H Q I (k _ _ _ q)⟩
theorem pi_seq {tg l : Expr} {tl : TE} (hl : PE X l tl) : PI X tg l (fun σ H R => tl σ H fun x H1 => ∃ a, x = .ref a ∧ (((∃ xs, SqL X.K H1 a xs) ∧ R (Itl X.K a) H1) ∨ ((∃ xs, SqT X.K H1 a xs) ∧ R (Itt X.K a) H1))) := by
  refine ⟨fun pins s σ H R I h => ?_⟩
  refine thn (hl.run pins s σ H _ I h) fun v s1 ⟨x, H1, I1, r1, q1⟩ => ?_
  obtain ⟨a, e, q⟩ := q1
  subst e
  cases r1
  rcases q with ⟨⟨xs, hq⟩, q⟩ | ⟨⟨xs, hq⟩, q⟩
  · obtain ⟨its, rv, p, hz⟩ := I1.list hq
    refine wpAny_pyIter_list p.isList ?_
    refine ⟨s1.heap.objs.size, [s1.heap.objs.size], _, _, H1, rfl, I1.kept (t' := s1.toks) fun b o e => Heap.get?_push_of_some _ e, turn_list a _, ⟨_, Heap.get?_push_size _ rfl, rfl, rfl⟩, fun b hb => ?_, q⟩
    have e : b = s1.heap.objs.size := by simpa using hb
    subst e
    exact I1.fpOk (Nat.le_refl _) (I1.hok.fresh (Nat.le_refl _))
  · obtain ⟨its, rv, p, hz⟩ := I1.tuple hq
    refine wpAny_pyIter_tuple (show s1.heap.IsTuple a its.toArray from p) ?_
    refine ⟨s1.heap.objs.size, [s1.heap.objs.size], _, _, H1, rfl, I1.kept (t' := s1.toks) fun b o e => Heap.get?_push_of_some _ e, turn_tuple a _, ⟨_, Heap.get?_push_size _ rfl, rfl, rfl⟩, fun b hb => ?_, q⟩
    have e : b = s1.heap.objs.size := by simpa using hb
    subst e
    exact I1.fpOk (Nat.le_refl _) (I1.hok.fresh (Nat.le_refl _))
theorem dwalk_list {K : PySem.W.Frag} {wo : Option (Addr × Addr)} {F : Hp} {p : Addr} {xs : List V} {ds : List D} (h : F p = some (.lst xs)) (r : Reps K F xs ds) : DWalk K wo (Itl K p) F ds where
  go := fun i d F' H hF x e => by
    obtain ⟨v, h1, h2⟩ := r.get e
    exact ⟨xs, v, SqL.of (x.fh _ _ (hF _ _ h)), h1⟩
  yld := fun i d F' H x H' hF ex e y => by
    obtain ⟨e1, y⟩ := y
    subst e1
    obtain ⟨v, h1, h2⟩ := r.get e
    have q := y xs (SqL.of (ex.fh _ _ (hF _ _ h)))
    rw [h1] at q
    cases q
    exact ⟨F', ex, Rep.mono hF _ _ h2⟩
  stop := fun F' H hF x => ⟨xs, SqL.of (x.fh _ _ (hF _ _ h)), Nat.le_of_eq r.len⟩
theorem dwalk_tup {K : PySem.W.Frag} {wo : Option (Addr × Addr)} {F : Hp} {p : Addr} {xs : List V} {ds : List D} (h : SqT K F p xs) (r : Reps K F xs ds) : DWalk K wo (Itt K p) F ds where
  go := fun i d F' H hF x e => by
    obtain ⟨v, h1, h2⟩ := r.get e
    exact ⟨xs, v, sqT_mono x.fh (sqT_mono hF h), h1⟩
  yld := fun i d F' H x H' hF ex e y => by
    obtain ⟨e1, y⟩ := y
    subst e1
    obtain ⟨v, h1, h2⟩ := r.get e
    have q := y xs (sqT_mono ex.fh (sqT_mono hF h))
    rw [h1] at q
    cases q
    exact ⟨F', ex, Rep.mono hF _ _ h2⟩
  stop := fun F' H hF x => ⟨xs, sqT_mono x.fh (sqT_mono hF h), Nat.le_of_eq r.len⟩
def onItems (d : D) (Q : List D → Prop) : Prop := match itemsD d with | some ds => Q ds | none => False
def dItems (m : DTE) (en : En) (Q : List D → Prop) : Prop := m en fun d => onItems d Q
theorem di_seq {tg l : Expr} (h : DE X c l m) : DI X c tg l true (dItems m) := by
  refine ⟨PI.imp (pi_seq h.run) fun σ H Q h => ?_⟩
  obtain ⟨F, en, R, r, h, k⟩ := h
  refine ⟨F, en, _, r, h, fun d hd v F' H' x rv => ?_⟩
  cases d with
  | list ds =>
    obtain ⟨p, xs, rfl, g1, g2, g3⟩ := rv.lstI
    exact ⟨p, rfl, .inl ⟨⟨xs, SqL.of (x.fh _ _ g1)⟩, k ds hd _ F' H' x (dwalk_list g1 g2) fun _ => g3⟩⟩
  | tuple ds =>
    obtain ⟨p, xs, rfl, g1, g2, g3⟩ := rv.tupI
    exact ⟨p, rfl, .inr ⟨⟨xs, sqT_mono x.fh g1⟩, k ds hd _ F' H' x (dwalk_tup g1 g2) fun _ => g3⟩⟩
  | _ => exact False.elim hd
def rangeD (lo : Int) (n : Nat) : List D := (List.range n).map fun (i : Nat) => .int (lo + i)
theorem rangeD_get {lo : Int} {n i : Nat} {d : D} (h : (rangeD lo n)[i]? = some d) : i < n ∧ d = .int (lo + i) := by
  unfold rangeD at h
  rw [List.getElem?_map] at h
  cases q : (List.range n)[i]? with
  | none => rw [q] at h; cases h
  | some j =>
    obtain ⟨h1, h2⟩ := List.getElem?_eq_some_iff.mp q
    rw [List.getElem_range] at h2
    rw [q] at h
    subst h2
    exact ⟨by simpa using h1, (Option.some.inj h).symm⟩
theorem rangeD_length (lo : Int) (n : Nat) : (rangeD lo n).length = n := by unfold rangeD; simp
theorem dwalk_range {K : PySem.W.Frag} {wo : Option (Addr × Addr)} {F : Hp} {lo : Int} {n : Nat} : DWalk K wo (Itr lo n) F (rangeD lo n) where
  go := fun i d F' H hF x e => (rangeD_get e).1
  yld := fun i d F' H x H' hF ex e y => by
    obtain ⟨e1, y⟩ := y
    subst e1
    obtain ⟨h1, h2⟩ := rangeD_get e
    subst h2
    subst y
    exact ⟨F', ex, .int _⟩
  stop := fun F' H hF x => by rw [rangeD_length]; exact Nat.le_refl _
def rng1D (ds : List D) (Q : List D → Prop) : Prop := match ds with | [.int j] => (-(2 ^ 62) ≤ j ∧ j < 2 ^ 62) ∧ Q (rangeD 0 j.toNat) | _ => False
def rng2D (ds : List D) (Q : List D → Prop) : Prop := match ds with | [.int i, .int j] => (-(2 ^ 62) ≤ i ∧ i < 2 ^ 62 ∧ -(2 ^ 62) ≤ j ∧ j < 2 ^ 62) ∧ Q (rangeD i (j - i).toNat) | _ => False
def dRng1 (ml : DTA) (en : En) (Q : List D → Prop) : Prop := ml en fun ds => rng1D ds Q
def dRng2 (ml : DTA) (en : En) (Q : List D → Prop) : Prop := ml en fun ds => rng2D ds Q
theorem di_range1 {tg : Expr} {p : Pos} (hg : Gl X "range") (hm : X.mg "range" = none) (ha : DA X c [a] ml) (hs : starEach [a] X.env = [(false, eval a X.env)] := by rfl) : DI X c tg (.Call (.Name "range" p) [a] [] pos) false (dRng1 ml) := by
  refine ⟨PI.imp (pi_range1 hg hm ha.run hs) fun σ H Q h => ?_⟩
  obtain ⟨F, en, R, r, h, k⟩ := h
  refine ⟨F, en, _, r, h, fun ds hd vs F' H' x rv _ => ?_⟩
  unfold rng1D at hd
  split at hd
  · obtain ⟨v, rfl, r1⟩ := rv.one
    cases r1
    exact ⟨_, rfl, hd.1.1, hd.1.2, k _ hd.2 _ F' H' x dwalk_range (fun z => nomatch z)⟩
  · exact hd.elim
theorem di_range2 {tg : Expr} {p : Pos} (hg : Gl X "range") (hm : X.mg "range" = none) (ha : DA X c [a, b] ml) (hs : starEach [a, b] X.env = [(false, eval a X.env), (false, eval b X.env)] := by rfl) (hs2 : starEach [b] X.env = [(false, eval b X.env)] := by rfl) : DI X c tg (.Call (.Name "range" p) [a, b] [] pos) false (dRng2 ml) := by
  refine ⟨PI.imp (pi_range2 hg hm ha.run hs hs2) fun σ H Q h => ?_⟩
  obtain ⟨F, en, R, r, h, k⟩ := h
  refine ⟨F, en, _, r, h, fun ds hd vs F' H' x rv _ => ?_⟩
  unfold rng2D at hd
  split at hd
  · obtain ⟨v, u, rfl, r1, r2⟩ := rv.two
    cases r1; cases r2
    exact ⟨_, _, rfl, hd.1, k _ hd.2 _ F' H' x dwalk_range (fun z => nomatch z)⟩
  · exact hd.elim

def wipeE (en : En) : List Nat → En
  | [] => en
  | v :: vs => (wipeE en vs).set v .un
theorem SR.wipe {K : PySem.W.Frag} {F H : Hp} {σ : St} {en : En} (r : SR K c F σ H en) : ∀ vs : List Nat, SR K c F (L2.wipe σ vs) H (wipeE en vs)
  | [] => r
  | v :: vs => (SR.wipe r vs).setS (ov := none) rfl trivial
theorem wipe_get {σ : St} : ∀ {vs : List Nat} {i : Nat}, (L2.wipe σ vs)[i]? = if i ∈ vs then (if i < σ.length then some none else none) else σ[i]?
  | [], i => by simp [L2.wipe]
  | v :: vs, i => by
    show ((L2.wipe σ vs).set v none)[i]? = _
    by_cases q : v = i
    · subst q
      by_cases hl : v < σ.length
      · rw [List.getElem?_set_self (by rw [wipe_length]; exact hl)]
        simp [hl]
      · rw [List.getElem?_eq_none (by rw [List.length_set, wipe_length]; omega)]
        simp [hl]
    · rw [List.getElem?_set_ne q, wipe_get]
      have e : (i ∈ v :: vs) ↔ i ∈ vs := ⟨fun h => by
        rcases List.mem_cons.mp h with h | h
        · exact absurd h.symm q
        · exact h, List.mem_cons_of_mem _⟩
      by_cases h : i ∈ vs
      · rw [if_pos h, if_pos (e.mpr h)]
      · rw [if_neg h, if_neg fun z => h (e.mp z)]
theorem wipe_same {σ σ' : St} {vs : List Nat} (hl : σ'.length = σ.length) (h : ∀ i, i ∉ vs → σ'[i]? = (L2.wipe σ vs)[i]?) : L2.wipe σ' vs = L2.wipe σ vs := by
  refine List.ext_getElem? fun i => ?_
  by_cases q : i ∈ vs
  · rw [wipe_get, wipe_get, if_pos q, if_pos q, hl]
  · rw [wipe_get, if_neg q, h i q]
/-- the tests of a comprehension -/
structure DTs (X : Cx) (c : Ct) (ifs : List Expr) (m : DTT) : Prop where
  run : PTs X ifs (liftT X.K c m)
def dYes (_x : En) (Q : Bool → Prop) : Prop := Q true
theorem dts_nil : DTs X c [] dYes := by
  refine ⟨⟨fun pins s σ H Q I h => pts_nil.run pins s σ H Q I ?_⟩⟩
  obtain ⟨F, en, R, r, h, k⟩ := h
  exact k _ h F H r.ext.self
theorem dts_one (h : DT X c e mt) : DTs X c [e] mt := ⟨pts_one h.run⟩
/-- a comprehension over known items -/
def LcW (z : Bool) (g : DTG) (mt : DTT) (me : DTE) (vs : List Nat) (ds : List D) (en : En) (Q : D → Prop) : Prop := (z = false → ds.length ≤ sizeLine) ∧ ∃ W : Nat → List D → Prop, W 0 [] ∧
  (∀ i d acc, ds[i]? = some d → acc.length ≤ i → W i acc → g d (wipeE en vs) fun en' => mt en' fun b => Cnd b (me en' fun y => W (i + 1) (acc ++ [y])) (W (i + 1) acc)) ∧ ∀ acc, acc.length ≤ ds.length → W ds.length acc → Q (.list acc)
def dLc (z : Bool) (mi : DTA) (g : DTG) (mt : DTT) (me : DTE) (vs : List Nat) (en : En) (Q : D → Prop) : Prop := mi en fun ds => LcW z g mt me vs ds en Q
theorem lift_lc {K : PySem.W.Frag} {z : Bool} {mi : DTA} {g : DTG} {mt : DTT} {me : DTE} {vs sl : List Nat} (hsl : ∀ i ∈ sl, i ∈ vs) {σ : St} {H : Hp} {Q : VK} (h : liftE K c (dLc z mi g mt me vs) σ H Q) :
    tLc (liftI K c z mi) (liftG K c sl g) (liftT K c mt) (liftE K c me) vs σ H Q := by
  obtain ⟨F, en, R, r, h, k⟩ := h
  refine ⟨F, en, _, r, h, fun ds hd J F1 H1 x1 w hz => ?_⟩
  intro D1 hD
  obtain ⟨hlen, W, w0, turn, fin⟩ := hd
  have hl : ds.length ≤ sizeLine := by
    cases z with
    | true => exact hz rfl
    | false => exact hlen rfl
  have fD : F1 D1 = none := by
    cases q : F1 D1 with
    | none => rfl
    | some u => rw [x1.fh _ _ q] at hD; cases hD
  refine ⟨fun i m Hc => m = ds.length - i ∧ i ≤ ds.length ∧ ∃ Fc acc vacc, Ext c.wo F1 H1 Fc Hc ∧ Hc D1 = some (.lst vacc) ∧ Fc D1 = none ∧ Reps K Fc vacc acc ∧ acc.length ≤ i ∧ W i acc,
    ⟨ds.length, by simp, Nat.zero_le _, F1, [], [], x1.self.poke hD fD (x1.wne hD), upd_same, fD, .nil, Nat.le_refl _, w0⟩, ?_⟩
  rintro i m Hc ⟨rfl, hi, Fc, acc, vacc, xc, hc, fc, rc, hacc, wc⟩
  by_cases hlt : i < ds.length
  · have ed : ds[i]? = some ds[i] := List.getElem?_eq_getElem hlt
    refine .inr ⟨w.go i _ Fc Hc xc.ff xc.self ed, fun H' => ∃ Fc acc vacc, Ext c.wo F1 H1 Fc H' ∧ H' D1 = some (.lst vacc) ∧ Fc D1 = none ∧ Reps K Fc vacc acc ∧ acc.length ≤ i + 1 ∧ W (i + 1) acc, fun H' h' => ⟨ds.length - (i + 1), by omega, rfl, hlt, h'⟩, fun x H' y => ?_⟩
    obtain ⟨F2, x2, rx⟩ := w.yld i _ Fc Hc x H' xc.ff xc.self ed y
    have nD : ∀ {F3 H3 : Hp}, Ext c.wo Fc Hc F3 H3 → H3 D1 = some (.lst vacc) ∧ F3 D1 = none := fun {F3 H3} x3 => by
      refine ⟨x3.hh _ _ hc fun ⟨d, q⟩ => (x1.wne hD _ q).1 rfl, ?_⟩
      cases q : F3 D1 with
      | none => rfl
      | some u =>
        have := x3.nw _ _ q fc
        rw [hc] at this; rcases this with this | ⟨_, this⟩ <;> cases this
    have r0 := ((r.grow x1).grow xc).grow x2
    refine ⟨F2, wipeE en vs, ds[i], _, r0.wipe vs, rx, turn i _ acc ed hacc wc, fun en' σ' h' r' k' => ?_⟩
    refine ⟨wipe_same (k'.1.trans (wipe_length _ _)) fun j hj => k'.2 j fun z => hj (hsl j z), F2, en', _, r', h', fun bb hb F3 H3 x3 => ?_⟩
    cases bb with
    | true =>
      refine ⟨F3, en', _, r'.grow x3, hb, fun yd hy yv F4 H4 x4 ry => ?_⟩
      have xx := x2.trans (x3.trans x4)
      obtain ⟨n1, n2⟩ := nD xx
      refine ⟨vacc, n1, by rw [rc.len]; omega, F4, acc ++ [yd], vacc ++ [yv], (xc.trans xx).poke hD n2 (x1.wne hD), upd_same, n2, (Reps.mono xx.ff _ _ rc).append (.cons ry .nil), by rw [List.length_append, List.length_singleton]; omega, hy⟩
    | false =>
      have xx := x2.trans x3
      obtain ⟨n1, n2⟩ := nD xx
      exact ⟨F3, acc, vacc, xc.trans xx, n1, n2, Reps.mono xx.ff _ _ rc, by omega, hb⟩
  · have e : i = ds.length := by omega
    subst e
    refine .inl ⟨w.stop Fc Hc xc.ff xc.self, ?_⟩
    have hD0 : H D1 = none := x1.back hD
    refine k _ (fin acc hacc wc) _ (upd Fc D1 (.lst vacc)) Hc ?_ (.lst upd_same (Reps.mono (fun b o q => by rw [upd_ne (ne_of_none q fc)]; exact q) _ _ rc) (Nat.le_trans hacc hl))
    have x := x1.trans xc
    refine ⟨fun b o q => by rw [upd_ne (ne_of_none (x.ff b o q) fc)]; exact x.ff b o q, fun b o q => ?_, x.hh, fun b o q n => ?_, x.wk⟩
    · by_cases zz : b = D1
      · subst zz; rw [upd_same] at q; cases q; exact hc
      · rw [upd_ne zz] at q; exact x.fh b o q
    · by_cases zz : b = D1
      · subst zz; exact .inl hD0
      · rw [upd_ne zz] at q; exact x.nw b o q n
end
end Lay
namespace Lay
open PySem PySem.Spec L2
open PyProof.Rows hiding St

section
variable {X : Cx} {c : Ct} {e a b : Expr} {es : List Expr} {m ma mb : DTE} {ml : DTA} {mt mu : DTT} {pos : Pos}
theorem de_lc {elt tg iter : Expr} {ifs : List Expr} {scope : Scope} {own : List (Str × Nat)} {sl : List Nat} {z : Bool} {mi : DTA} {g : DTG} {me : DTE} (hc : X.calm = true) (hN : X.N.Nodup) (hi : DI X c tg iter z mi) (ok : BlkOk X.N X.env.scope scope own)
    (hg : ∀ (s : Shared) (H : Hp) (C : Addr) (cl : List (Str × Addr)) (fp : List Addr), DG (X.blk s H scope (compEnvC scope cl C X.env) fp) c tg sl g) (ht : ∀ (s : Shared) (H : Hp) (C : Addr) (cl : List (Str × Addr)) (fp : List Addr), DTs (X.blk s H scope (compEnvC scope cl C X.env) fp) c ifs mt)
    (he : ∀ (s : Shared) (H : Hp) (C : Addr) (cl : List (Str × Addr)) (fp : List Addr), DE (X.blk s H scope (compEnvC scope cl C X.env) fp) c elt me) (hsl : ∀ i ∈ sl, i ∈ own.map (·.2) := by decide) (hs : ∀ x, foldedSetIterable iter X.env x = pure x := by intro _; rfl) :
    DE X c (.ListComp elt [⟨tg, iter, ifs, 0⟩] scope pos) (dLc z mi g mt me (own.map (·.2))) :=
  ⟨PE.imp (pe_lc hc hN hi.run ok (fun s H C cl fp => (hg s H C cl fp).run) (fun s H C cl fp => (ht s H C cl fp).run) (fun s H C cl fp => (he s H C cl fp).run) hs) fun _ _ _ h => lift_lc hsl h⟩

structure DEnds where
  nx : En → Prop
  rt : D → Prop
  bk : En → Prop := fun _ => False
  ct : En → Prop := fun _ => False
abbrev DTS := DEnds → En → Prop
def Sub (F F' : Hp) : Prop := ∀ a o, F a = some o → F' a = some o
theorem Sub.refl {F : Hp} : Sub F F := fun _ _ e => e
theorem Sub.trans {F F1 F2 : Hp} (a : Sub F F1) (b : Sub F1 F2) : Sub F F2 := fun x o e => b x o (a x o e)
/-- what is wanted behind, by data, serves what is wanted by the heap -/
structure EndsOk (K : PySem.W.Frag) (c : Ct) (F : Hp) (R : DEnds) (D : Ends) : Prop where
  nx : ∀ en' σ' F' H', R.nx en' → SR K c F' σ' H' en' → Sub F F' → D.nx σ' H'
  rt : ∀ d v F' H', R.rt d → Ext c.wo c.F_0 c.H_0 F' H' → Rep K F' v d → D.rt v H'
  bk : ∀ en' σ' F' H', R.bk en' → SR K c F' σ' H' en' → Sub F F' → D.bk σ' H'
  ct : ∀ en' σ' F' H', R.ct en' → SR K c F' σ' H' en' → Sub F F' → D.ct σ' H'
theorem EndsOk.later {K : PySem.W.Frag} {F F1 : Hp} {R : DEnds} {D : Ends} (h : EndsOk K c F R D) (s : Sub F F1) : EndsOk K c F1 R D :=
  ⟨fun en σ F' H' a b k => h.nx en σ F' H' a b (s.trans k), h.rt, fun en σ F' H' a b k => h.bk en σ F' H' a b (s.trans k), fun en σ F' H' a b k => h.ct en σ F' H' a b (s.trans k)⟩
def liftS (K : PySem.W.Frag) (c : Ct) (m : DTS) : TS := fun D σ H => ∃ F en R, SR K c F σ H en ∧ m R en ∧ EndsOk K c F R D
structure DS (X : Cx) (c : Ct) (st : Stmt) (m : DTS) : Prop where
  run : PS X st (liftS X.K c m)
structure DSs (X : Cx) (c : Ct) (st : List Stmt) (m : DTS) : Prop where
  run : PSs X st (liftS X.K c m)
theorem PS.imp {X : Cx} {e : Stmt} {t t' : TS} (h : PS X e t) (k : ∀ D σ H, t' D σ H → t D σ H) : PS X e t' := ⟨fun pins s σ H D I q => h.run pins s σ H D I (k _ _ _ q)⟩
theorem PSs.imp {X : Cx} {e : List Stmt} {t t' : TS} (h : PSs X e t) (k : ∀ D σ H, t' D σ H → t D σ H) : PSs X e t' := ⟨fun pins s σ H D I q => h.run pins s σ H D I (k _ _ _ q)⟩
variable {st : Stmt} {sts : List Stmt} {s1 s2 : DTS}
def dSkip (R : DEnds) (en : En) : Prop := R.nx en
/-- the rest of a block -/
def Then (s2 : DTS) (R : DEnds) (en : En) : Prop := s2 R en
def dSeq (s1 s2 : DTS) (R : DEnds) (en : En) : Prop := s1 { R with nx := Then s2 R } en
theorem dss_nil : DSs X c [] dSkip := ⟨PSs.imp pss_nil fun D σ H ⟨F, en, R, r, h, k⟩ => k.nx _ _ F H h r .refl⟩
theorem dss_cons (h1 : DS X c st s1) (h2 : DSs X c sts s2) : DSs X c (st :: sts) (dSeq s1 s2) := by
  refine ⟨PSs.imp (pss_cons h1.run h2.run) fun D σ H h => ?_⟩
  obtain ⟨F, en, R, r, h, k⟩ := h
  exact ⟨F, en, _, r, h, fun en' σ' F' H' h' r' s' => ⟨F', en', R, r', h', k.later s'⟩, k.rt, k.bk, k.ct⟩
theorem dss_one (h1 : DS X c st s1) : DSs X c [st] s1 := ⟨pss_one h1.run⟩
def dPass (R : DEnds) (en : En) : Prop := R.nx en
def dBreak (R : DEnds) (en : En) : Prop := R.bk en
def dCont (R : DEnds) (en : En) : Prop := R.ct en
theorem ds_pass : DS X c (.Pass pos) dPass := ⟨PS.imp ps_pass fun D σ H ⟨F, en, R, r, h, k⟩ => k.nx _ _ F H h r .refl⟩
theorem ds_break : DS X c (.Break pos) dBreak := ⟨PS.imp ps_break fun D σ H ⟨F, en, R, r, h, k⟩ => k.bk _ _ F H h r .refl⟩
theorem ds_continue : DS X c (.Continue pos) dCont := ⟨PS.imp ps_continue fun D σ H ⟨F, en, R, r, h, k⟩ => k.ct _ _ F H h r .refl⟩
def dRet (m : DTE) (R : DEnds) (en : En) : Prop := m en R.rt
theorem ds_ret (h : DE X c e m) : DS X c (.Return (some e) pos) (dRet m) := by
  refine ⟨PS.imp (ps_ret h.run) fun D σ H h => ?_⟩
  obtain ⟨F, en, R, r, h, k⟩ := h
  exact ⟨F, en, _, r, h, fun d hd v F' H' x rv => k.rt d v F' H' hd (r.ext.trans x) rv⟩
def dRetN (R : DEnds) (_x : En) : Prop := R.rt .none
theorem ds_retN : DS X c (.Return none pos) dRetN := ⟨PS.imp ps_retN fun D σ H ⟨F, en, R, r, h, k⟩ => k.rt _ _ F H h r.ext .non⟩
/-- an expression whose value is dropped -/
def dDrop (m : DTE) (R : DEnds) (en : En) : Prop := m en fun _ => R.nx en
theorem ds_expr (h : DE X c e m) (hs : swapsWith e none pos.line X.env = pure false := by rfl) : DS X c (.Expr e pos) (dDrop m) := by
  refine ⟨PS.imp (ps_expr h.run hs) fun D σ H h => ?_⟩
  obtain ⟨F, en, R, r, h, k⟩ := h
  exact ⟨F, en, _, r, h, fun d hd v F' H' x rv => k.nx en σ F' H' hd (r.grow x) x.ff⟩
def dCond (mt : DTT) (s1 s2 : DTS) (R : DEnds) (en : En) : Prop := mt en fun b => Cnd b (s1 R en) (s2 R en)
theorem ds_if {st1 st2 : List Stmt} (ht : DT X c e mt) (h1 : DSs X c st1 s1) (h2 : DSs X c st2 s2) : DS X c (.If e st1 st2 pos) (dCond mt s1 s2) := by
  refine ⟨PS.imp (ps_if ht.run h1.run h2.run) fun D σ H h => ?_⟩
  obtain ⟨F, en, R, r, h, k⟩ := h
  refine ⟨F, en, _, r, h, fun i hd F' H' x => ?_⟩
  cases i with
  | false => exact ⟨F', en, R, r.grow x, hd, k.later x.ff⟩
  | true => exact ⟨F', en, R, r.grow x, hd, k.later x.ff⟩
/-- an owned list becomes a value -/
def frz1 (s : Sl) (K : List D → Prop) (L : Prop) : Prop := match s with | .own xs => K xs | _ => L
def dFrz (i : Nat) (m : DTS) (R : DEnds) (en : En) : Prop := frz1 (gt en i) (fun xs => m R (en.set i (.val (.list xs)))) (m R en)
theorem lift_frz {K : PySem.W.Frag} {i : Nat} {m : DTS} {D : Ends} {σ : St} {H : Hp} (h : liftS K c (dFrz i m) D σ H) : liftS K c m D σ H := by
  obtain ⟨F, en, R, r, h, k⟩ := h
  unfold dFrz frz1 at h
  split at h
  · rename_i xs hg
    obtain ⟨F', x, s, r'⟩ := r.freeze (gt_get hg (fun z => nomatch z))
    exact ⟨F', _, R, r', h, k.later s⟩
  · exact ⟨F, en, R, r, h, k⟩
theorem ds_frz (i : Nat) (h : DS X c st s1) : DS X c st (dFrz i s1) := ⟨PS.imp h.run fun _ _ _ q => lift_frz q⟩
theorem dss_frz (i : Nat) (h : DSs X c sts s1) : DSs X c sts (dFrz i s1) := ⟨PSs.imp h.run fun _ _ _ q => lift_frz q⟩
/-- target = e -/
def dAsg (m : DTE) (g : DTG) (R : DEnds) (en : En) : Prop := m en fun d => g d en R.nx
theorem lift_asg {K : PySem.W.Frag} {sl : List Nat} {g : DTG} {D : Ends} {σ : St} {H : Hp} (h : liftS K c (dAsg m g) D σ H) : tAsg (liftE K c m) (liftG K c sl g) D σ H := by
  obtain ⟨F, en, R, r, h, k⟩ := h
  refine ⟨F, en, _, r, h, fun d hd v F' H' x rv => ?_⟩
  exact ⟨F', en, d, _, r.grow x, rv, hd, fun en' σ' h' r' _ => k.nx en' σ' F' H' h' r' x.ff⟩
theorem ds_asg {tg : Expr} {sl : List Nat} {g : DTG} (he : DE X c e m) (hg : DG X c tg sl g) (hs : swapsWithSole [tg] e pos.line X.env = pure false := by rfl) (hw : swappedStores [tg] e X.env = pure none := by rfl)
    (h1 : (assignEach [tg] X.env).map (·.2) = [assign tg X.env] := by rfl) : DS X c (.Assign [tg] e pos) (dAsg m g) :=
  ⟨PS.imp (ps_asg he.run hg.run hs hw h1) fun _ _ _ h => lift_asg h⟩
theorem ds_set {i : Nat} {x : Str} {pos' : Pos} (hN : X.N.Nodup) (hi : X.N[i]? = some x) (hx : Loc X.env.scope x) (he : DE X c e m) (hs : swapsWith e (some (.Name x pos')) pos.line X.env = pure false := by rfl) (hf : X.fn x = true ∨ X.env.scope.names.lookup x = some .local := by first | exact .inl rfl | exact .inr rfl | assumption) :
    DS X c (.Assign [.Name x pos'] e pos) (dAsg m (gNm i)) := by
  refine ⟨PS.imp (ps_set (i := i) hN hi hx he.run hs hf) fun D σ H h => ?_⟩
  obtain ⟨F, en, R, r, h, k⟩ := h
  refine ⟨F, en, _, r, h, fun d hd v F' H' x rv => ?_⟩
  exact k.nx _ _ F' H' hd ((r.grow x).set rv) x.ff
/-- x = [..] : the def's own list -/
def dOwn (i : Nat) (ml : DTA) (R : DEnds) (en : En) : Prop := ml en fun ds => R.nx (en.set i (.own ds))
theorem ds_own {i : Nat} {x : Str} {pos' : Pos} (hN : X.N.Nodup) (hi : X.N[i]? = some x) (hx : Loc X.env.scope x) (ha : DA X c es ml) (hz : es.length ≤ sizeLine := by decide) (hs : swapsWith (.List es pos) (some (.Name x pos')) pos.line X.env = pure false := by rfl) (hf : X.fn x = true ∨ X.env.scope.names.lookup x = some .local := by first | exact .inl rfl | exact .inr rfl | assumption) {spos : Pos} (hs' : swapsWith (.List es pos) (some (.Name x pos')) spos.line X.env = pure false := by rfl) :
    DS X c (.Assign [.Name x pos'] (.List es pos) spos) (dOwn i ml) := by
  refine ⟨PS.imp (ps_set (i := i) hN hi hx (pe_lst ha.run) hs' hf) fun D σ H h => ?_⟩
  obtain ⟨F, en, R, r, h, k⟩ := h
  refine ⟨F, en, _, r, h, fun ds hd vs F' H' x rv hn => ⟨by rw [hn]; exact hz, fun p hp => ?_⟩⟩
  exact k.nx _ _ F' _ hd ((r.grow x).setO hp ⟨p, vs, rfl, upd_same, rv, by rw [← rv.len, hn]; exact hz⟩) x.ff
/-- x = list(e) : the def's own copy -/
def seq1 (ds : List D) (Q : List D → Prop) : Prop := match ds with | [.list xs] => Q xs | [.tuple xs] => Q xs | _ => False
def dOwnL (i : Nat) (ml : DTA) (R : DEnds) (en : En) : Prop := ml en fun ds => seq1 ds fun xs => R.nx (en.set i (.own xs))
theorem ds_ownL {i : Nat} {x : Str} {p pos' spos : Pos} (hg : Gl X "list") (hm : X.mg "list" = none) (hN : X.N.Nodup) (hi : X.N[i]? = some x) (hx : Loc X.env.scope x) (ha : DA X c [a] ml) (hs : swapsWith (.Call (.Name "list" p) [a] [] pos) (some (.Name x pos')) spos.line X.env = pure false := by rfl)
    (he : starEach [a] X.env = (false, eval a X.env) :: starEach [] X.env := by rfl) (hpl : (backTo pos (starEach [] X.env)).any (·.1) = false := by rfl) (hf : X.fn x = true ∨ X.env.scope.names.lookup x = some .local := by first | exact .inl rfl | exact .inr rfl | assumption) :
    DS X c (.Assign [.Name x pos'] (.Call (.Name "list" p) [a] [] pos) spos) (dOwnL i ml) := by
  refine ⟨PS.imp (ps_set (i := i) hN hi hx (pe_callTy call_list_of hg hm boot_list ha.run (by decide) (by decide) he hpl) hs hf) fun D σ H h => ?_⟩
  obtain ⟨F, en, R, r, h, k⟩ := h
  refine ⟨F, en, _, r, h, fun ds hd vs F' H' x rv hn => ?_⟩
  unfold seq1 at hd
  split at hd
  · obtain ⟨v, rfl, r1⟩ := rv.one
    obtain ⟨p, ys, rfl, g1, g2, g3⟩ := r1.lstI
    refine ⟨p, ys, rfl, .inl (SqL.of (x.fh _ _ g1)), fun l hl => ?_⟩
    exact k.nx _ _ F' _ hd ((r.grow x).setO hl ⟨l, ys, rfl, upd_same, g2, g3⟩) x.ff
  · obtain ⟨v, rfl, r1⟩ := rv.one
    obtain ⟨p, ys, rfl, g1, g2, g3⟩ := r1.tupI
    refine ⟨p, ys, rfl, .inr (sqT_mono x.fh g1), fun l hl => ?_⟩
    exact k.nx _ _ F' _ hd ((r.grow x).setO hl ⟨l, ys, rfl, upd_same, g2, g3⟩) x.ff
  · exact hd.elim
/-- x = [.. for ..] on one line -/
theorem ds_setLc {i : Nat} {y : Str} {py : Pos} {elt tg iter : Expr} {ifs : List Expr} {scope : Scope} {own : List (Str × Nat)} {sl : List Nat} {z : Bool} {mi : DTA} {g : DTG} {me : DTE} {spos : Pos} (hc : X.calm = true) (hN : X.N.Nodup) (hy : X.N[i]? = some y) (hyl : X.env.scope.names.lookup y = some .local)
    (hsw : swapsWith (.ListComp elt [⟨tg, iter, ifs, 0⟩] scope pos) (some (.Name y py)) spos.line X.env = pure true) (hi : DI X c tg iter z mi) (ok : BlkOk X.N X.env.scope scope own)
    (hg : ∀ (s : Shared) (H : Hp) (C : Addr) (cl : List (Str × Addr)) (fp : List Addr), DG (X.blk s H scope (compEnvC scope cl C X.env) fp) c tg sl g) (ht : ∀ (s : Shared) (H : Hp) (C : Addr) (cl : List (Str × Addr)) (fp : List Addr), DTs (X.blk s H scope (compEnvC scope cl C X.env) fp) c ifs mt)
    (he : ∀ (s : Shared) (H : Hp) (C : Addr) (cl : List (Str × Addr)) (fp : List Addr), DE (X.blk s H scope (compEnvC scope cl C X.env) fp) c elt me) (hsl : ∀ i ∈ sl, i ∈ own.map (·.2) := by decide) (hs : ∀ x, foldedSetIterable iter X.env x = pure x := by intro _; rfl) :
    DS X c (.Assign [.Name y py] (.ListComp elt [⟨tg, iter, ifs, 0⟩] scope pos) spos) (dAsg (dLc z mi g mt me (own.map (·.2))) (gNm i)) := by
  refine ⟨PS.imp (ps_setLc (te := liftE X.K c me) (tt := liftT X.K c mt) (g := liftG X.K c sl g) (i := i) hc hN hy hyl hsw hi.run ok (fun s H C cl fp => (hg s H C cl fp).run) (fun s H C cl fp => (ht s H C cl fp).run) (fun s H C cl fp => (he s H C cl fp).run) hs) fun D σ H h => ?_⟩
  obtain ⟨F, en, R, r, h, k⟩ := h
  refine lift_lc hsl ⟨F, en, _, r, h, fun d hd v F' H' x rv => ?_⟩
  exact k.nx _ _ F' H' hd ((r.grow x).set rv) x.ff
/-- a, b = e1, e2: two names at once -/
def par2 (i j : Nat) (ds : List D) (en : En) (Q : En → Prop) : Prop := match ds with | [d, e] => Q ((en.set i (.val d)).set j (.val e)) | _ => False
def dPar (i j : Nat) (ml : DTA) (R : DEnds) (en : En) : Prop := ml en fun ds => par2 i j ds en R.nx
theorem ds_par {i j : Nat} {x y : Str} {px py pt : Pos} {kt k2 pt2} (hc : X.calm = true) (hN : X.N.Nodup) (hi : X.N[i]? = some x) (hj : X.N[j]? = some y) (hij : i ≠ j)
    (hx : X.env.scope.names.lookup x = some .local) (hy : X.env.scope.names.lookup y = some .local) (ha : DA X c [a, b] ml)
    (hw : swappedStores [.Tuple [.Name x px, .Name y py] kt pt] (.Tuple [a, b] k2 pt2) X.env = pure (some [x, y]))
    (hs : swapsWithSole [.Tuple [.Name x px, .Name y py] kt pt] (.Tuple [a, b] k2 pt2) pos.line X.env = pure false := by rfl) :
    DS X c (.Assign [.Tuple [.Name x px, .Name y py] kt pt] (.Tuple [a, b] k2 pt2) pos) (dPar i j ml) := by
  refine ⟨PS.imp (ps_par hc hN hi hj hij hx hy ha.run hw hs) fun D σ H h => ?_⟩
  obtain ⟨F, en, R, r, h, k⟩ := h
  refine ⟨F, en, _, r, h, fun ds hd vs F' H' x rv hn => ?_⟩
  unfold par2 at hd
  split at hd
  · obtain ⟨v, u, rfl, r1, r2⟩ := rv.two
    exact ⟨v, u, rfl, k.nx _ _ F' H' hd (((r.grow x).set r1).set r2) x.ff⟩
  · exact hd.elim
/-- x op= e, ints -/
def dAug (i : Nat) (f : Int → Int → Int) (m : DTE) (R : DEnds) (en : En) : Prop := onVal (gt en i) fun x => onInt x fun k => m en fun d => onInt d fun j => R.nx (en.set i (.val (.int (f k j))))
theorem ds_aug {i : Nat} {x : Str} {op : Operator} {f : Int → Int → Int} {pos' : Pos} (ho : PIp X op (ipI f)) (hN : X.N.Nodup) (hi : X.N[i]? = some x) (hx : Loc X.env.scope x) (he : DE X c e m) (hf : X.fn x = true ∨ X.env.scope.names.lookup x = some .local := by first | exact .inl rfl | exact .inr rfl | assumption) :
    DS X c (.AugAssign (.Name x pos') op e pos) (dAug i f m) := by
  refine ⟨PS.imp (ps_aug (i := i) hN hi hx he.run ho hf) fun D σ H h => ?_⟩
  obtain ⟨F, en, R, r, h, k⟩ := h
  unfold dAug onVal at h
  split at h
  · rename_i z hg
    obtain ⟨ov, e1, v, e2, e3⟩ := r.sl i _ (gt_get hg (fun z => nomatch z))
    subst e2
    cases z with
    | int z =>
      cases e3
      refine ⟨_, e1, F, en, _, r, h, fun d hd u F' H' x rv => ?_⟩
      cases d with
      | int j =>
        cases rv
        exact ⟨z, j, rfl, rfl, k.nx _ _ F' H' hd ((r.grow x).set (.int _)) x.ff⟩
      | _ => exact False.elim hd
    | _ => exact False.elim h
  · exact h.elim
/-- x.append(e), x the def's own list -/
def dApp (i : Nat) (m : DTE) (R : DEnds) (en : En) : Prop := onOwn (gt en i) fun xs => m en fun d => xs.length < sizeLine ∧ R.nx (en.set i (.own (xs ++ [d])))
theorem lift_app {K : PySem.W.Frag} {i : Nat} {D : Ends} {σ : St} {H : Hp} (h : liftS K c (dApp i m) D σ H) : tDrop (tBM K "list" rAppend (tVar i) (tCons (liftE K c m) tNil)) D σ H := by
  obtain ⟨F, en, R, r, h, k⟩ := h
  unfold dApp onOwn at h
  split at h
  · rename_i xs hg
    have hen := gt_get hg (fun z => nomatch z)
    obtain ⟨ov, e1, p, vs, e2, e3, e4, e5⟩ := r.sl i _ hen
    subst e2
    refine ⟨_, e1, .inl ⟨rfl, _, SqL.of e3⟩, F, en, _, r, h, fun d hd u F' H' x rv => ?_⟩
    have g := r.grow x
    have ha : ownAt σ en i p := ⟨e1, _, hen, rfl⟩
    have e3' := x.hh _ _ e3 (r.notW ha)
    have e4' := Reps.mono x.ff _ _ e4
    refine ⟨p, vs, u, rfl, rfl, e3', by rw [e4.len]; exact hd.1, ?_⟩
    refine k.nx _ _ F' _ hd.2 (g.turn ha ⟨p, _, rfl, upd_same, e4'.append (.cons rv .nil), ?_⟩) x.ff
    rw [List.length_append, List.length_singleton]
    exact hd.1
  · exact h.elim
theorem ds_app {i : Nat} {x : Str} {px ap spos : Pos} (hN : X.N[i]? = some x) (hv : Vis X.env.scope x) (ha : DE X c e m) (hb : attributeBase (.Name x px) "append" X.env (eval (.Name x px) X.env) = eval (.Name x px) X.env := by rfl)
    (hp : PE X (.Call (.Attribute (.Name x px) "append" ap) [e] [] pos) (tBM X.K "list" rAppend (tVar i) (tCons (liftE X.K c m) tNil)))
    (hs : swapsWith (.Call (.Attribute (.Name x px) "append" ap) [e] [] pos) none spos.line X.env = pure false := by rfl) : DS X c (.Expr (.Call (.Attribute (.Name x px) "append" ap) [e] [] pos) spos) (dApp i m) :=
  ⟨PS.imp (ps_expr hp hs) fun _ _ _ h => lift_app h⟩
/-- x.extend(e) -/
def onLst (d : D) (K : List D → Prop) : Prop := match d with | .list ds => K ds | _ => False
def dExt (i : Nat) (m : DTE) (R : DEnds) (en : En) : Prop := onOwn (gt en i) fun xs => m en fun d => onLst d fun ys => xs.length + ys.length ≤ sizeLine ∧ R.nx (en.set i (.own (xs ++ ys)))
theorem lift_ext {K : PySem.W.Frag} {i : Nat} {D : Ends} {σ : St} {H : Hp} (h : liftS K c (dExt i m) D σ H) : tDrop (tBM K "list" rExtend (tVar i) (tCons (liftE K c m) tNil)) D σ H := by
  obtain ⟨F, en, R, r, h, k⟩ := h
  unfold dExt onOwn at h
  split at h
  · rename_i xs hg
    have hen := gt_get hg (fun z => nomatch z)
    obtain ⟨ov, e1, p, vs, e2, e3, e4, e5⟩ := r.sl i _ hen
    subst e2
    refine ⟨_, e1, .inl ⟨rfl, _, SqL.of e3⟩, F, en, _, r, h, fun d hd u F' H' x rv => ?_⟩
    cases d with
    | list ys =>
      obtain ⟨q, us, rfl, g1, g2, g3⟩ := rv.lstI
      have g := r.grow x
      have ha : ownAt σ en i p := ⟨e1, _, hen, rfl⟩
      have e3' := x.hh _ _ e3 (r.notW ha)
      have e4' := Reps.mono x.ff _ _ e4
      refine ⟨p, q, vs, us, rfl, rfl, e3', x.fh _ _ g1, by rw [e4.len, g2.len]; exact hd.1, ?_⟩
      refine k.nx _ _ F' _ hd.2 (g.turn ha ⟨p, _, rfl, upd_same, e4'.append g2, ?_⟩) x.ff
      rw [List.length_append]
      exact hd.1
    | _ => exact False.elim hd
  · exact h.elim
theorem ds_ext {i : Nat} {x : Str} {px ap spos : Pos} (ha : DE X c e m)
    (hp : PE X (.Call (.Attribute (.Name x px) "extend" ap) [e] [] pos) (tBM X.K "list" rExtend (tVar i) (tCons (liftE X.K c m) tNil)))
    (hs : swapsWith (.Call (.Attribute (.Name x px) "extend" ap) [e] [] pos) none spos.line X.env = pure false := by rfl) : DS X c (.Expr (.Call (.Attribute (.Name x px) "extend" ap) [e] [] pos) spos) (dExt i m) :=
  ⟨PS.imp (ps_expr hp hs) fun _ _ _ h => lift_ext h⟩
def dWhile (mt : DTT) (s1 : DTS) (R : DEnds) (en : En) : Prop := ∃ W : Nat → En → Prop, (∃ n, W n en) ∧ ∀ n en, W n en → mt en fun b => Cnd b (s1 { nx := fun en' => ∃ m, m < n ∧ W m en', ct := fun en' => ∃ m, m < n ∧ W m en', bk := R.nx, rt := R.rt } en) (R.nx en)
theorem ds_while {body : List Stmt} (hp : PassesOwn (model X.prog X.w) X.A X.env X.xe) (ht : DT X c e mt) (hb : DSs X c body s1) : DS X c (.While e body [] pos) (dWhile mt s1) := by
  refine ⟨PS.imp (ps_while hp ht.run hb.run) fun D σ H h => ?_⟩
  obtain ⟨F, en, R, r, ⟨W, ⟨n0, w0⟩, turn⟩, k⟩ := h
  refine ⟨fun n σ H => ∃ F' en, SR X.K c F' σ H en ∧ Sub F F' ∧ W n en, ⟨n0, F, en, r, .refl, w0⟩, ?_⟩
  rintro n σ1 H1 ⟨F1, en1, r1, s1', w1⟩
  refine ⟨F1, en1, _, r1, turn n en1 w1, fun b hb F2 H2 x2 => ?_⟩
  have s2 := s1'.trans x2.ff
  cases b with
  | true =>
    refine ⟨fun σ' H' => ∃ m, m < n ∧ ∃ F' en, SR X.K c F' σ' H' en ∧ Sub F F' ∧ W m en, fun σ' H' ⟨m, hm, z⟩ => ⟨m, hm, z⟩, F2, en1, _, r1.grow x2, hb, ?_, k.rt, ?_, ?_⟩
    · rintro en' σ' F' H' ⟨m, hm, wm⟩ r' sb
      exact ⟨m, hm, F', en', r', s2.trans sb, wm⟩
    · exact fun en' σ' F' H' a b q => k.nx en' σ' F' H' a b (s2.trans q)
    · rintro en' σ' F' H' ⟨m, hm, wm⟩ r' sb
      exact ⟨m, hm, F', en', r', s2.trans sb, wm⟩
  | false => exact k.nx _ _ F2 H2 hb (r1.grow x2) s2
/-- a loop over known items -/
def ForW (g : DTG) (s1 : DTS) (ds : List D) (R : DEnds) (en : En) : Prop := ∃ W : Nat → En → Prop, W 0 en ∧ (∀ i d, ds[i]? = some d → ∀ en, W i en → g d en fun en' => s1 { nx := W (i + 1), ct := W (i + 1), bk := R.nx, rt := R.rt } en') ∧ ∀ en, W ds.length en → R.nx en
def dFor (mi : DTA) (g : DTG) (s1 : DTS) (R : DEnds) (en : En) : Prop := mi en fun ds => ForW g s1 ds R en
theorem ds_for {tg iter : Expr} {body : List Stmt} {z : Bool} {mi : DTA} {g : DTG} {sl : List Nat} (hp : PassesOwn (model X.prog X.w) X.A X.env X.xe) (hc : X.calm = true) (hi : DI X c tg iter z mi) (hg : DG X c tg sl g) (hb : DSs X c body s1)
    (hs : ∀ x, foldedSetIterable iter X.env x = pure x := by intro _; rfl) : DS X c (.For tg iter body [] pos) (dFor mi g s1) := by
  refine ⟨PS.imp (ps_for hp hc hi.run hg.run hb.run hs) fun D σ H h => ?_⟩
  obtain ⟨F, en, R, r, h, k⟩ := h
  refine ⟨F, en, _, r, h, fun ds hd J F1 H1 x1 w _ => ?_⟩
  obtain ⟨W, w0, turn, fin⟩ := hd
  refine ⟨fun i m σ H => m = ds.length - i ∧ i ≤ ds.length ∧ ∃ F' en, SR X.K c F' σ H en ∧ Sub F1 F' ∧ W i en, ⟨ds.length, by simp, Nat.zero_le _, F1, en, r.grow x1, .refl, w0⟩, ?_⟩
  rintro i m σ2 H2 ⟨rfl, hi2, F2, en2, r2, sb, w2⟩
  by_cases hlt : i < ds.length
  · have ed : ds[i]? = some ds[i] := List.getElem?_eq_getElem hlt
    refine .inr ⟨w.go i _ F2 H2 sb r2.ext.self ed, fun σ' H' => ∃ F' en, SR X.K c F' σ' H' en ∧ Sub F1 F' ∧ W (i + 1) en, fun σ' H' h' => ⟨ds.length - (i + 1), by omega, rfl, hlt, h'⟩, fun x H' y => ?_⟩
    obtain ⟨F3, x3, rx⟩ := w.yld i _ F2 H2 x H' sb r2.ext.self ed y
    have s3 := sb.trans x3.ff
    refine ⟨F3, en2, ds[i], _, r2.grow x3, rx, turn i _ ed en2 w2, fun en' σ' h' r' _ => ?_⟩
    refine ⟨F3, en', _, r', h', fun en4 σ4 F4 H4 a b q => ⟨F4, en4, b, s3.trans q, a⟩, k.rt, fun en4 σ4 F4 H4 a b q => k.nx _ _ F4 H4 a b ((Sub.trans x1.ff s3).trans q), fun en4 σ4 F4 H4 a b q => ⟨F4, en4, b, s3.trans q, a⟩⟩
  · have e : i = ds.length := by omega
    subst e
    exact .inl ⟨w.stop F2 H2 sb r2.ext.self, k.nx _ _ F2 H2 (fin en2 w2) r2 (Sub.trans x1.ff sb)⟩
/-- item by item -/
def forL (g : DTG) (s1 : DTS) : List D → DEnds → En → Prop
  | [], R, en => R.nx en
  | d :: ds, R, en => g d en fun en' => s1 { nx := forL g s1 ds R, ct := forL g s1 ds R, bk := R.nx, rt := R.rt } en'
theorem for_unroll {g : DTG} {ds : List D} {R : DEnds} {en : En} (h : forL g s1 ds R en) : ForW g s1 ds R en := by
  refine ⟨fun i en => forL g s1 (ds.drop i) R en, h, fun i d e en w => ?_, fun en w => ?_⟩
  · have hl : i < ds.length := (List.getElem?_eq_some_iff.mp e).1
    have q : ds.drop i = d :: ds.drop (i + 1) := by
      rw [List.drop_eq_getElem_cons hl]
      rw [(List.getElem?_eq_some_iff.mp e).2]
    simp only [q] at w
    exact w
  · simpa [forL] using w

/-- the slots at the entry: the arguments, then nothing -/
def startE (n : Nat) (ds : List D) : En := ds.map .val ++ List.replicate (n - ds.length) .un
theorem sr_start {K : PySem.W.Frag} {N : List Str} {F H : Hp} {vs : List V} {ds : List D} (hF : ∀ a o, F a = some o → H a = some o) (r : Reps K F vs ds) : SR K ⟨none, F, H⟩ F (L2.start N vs) H (startE N.length ds) := by
  have hl := r.len
  have key : ∀ (i : Nat) s, (startE N.length ds)[i]? = some s → ∃ ov, (L2.start N vs)[i]? = some ov ∧ SlR K ⟨none, F, H⟩ F H ov s ∧ s.isOwn = false := fun i s e => by
    unfold startE at e
    unfold L2.start
    by_cases q : i < ds.length
    · rw [List.getElem?_append_left (by simpa using q), List.getElem?_map, List.getElem?_eq_getElem q] at e
      cases e
      obtain ⟨v, h1, h2⟩ := r.get (List.getElem?_eq_getElem q)
      exact ⟨some v, by rw [List.getElem?_append_left (by simpa [hl] using q), List.getElem?_map, h1]; rfl, ⟨v, rfl, h2⟩, rfl⟩
    · rw [List.getElem?_append_right (by simpa using Nat.not_lt.mp q), List.length_map, List.getElem?_replicate] at e
      split at e
      · rename_i h1
        cases e
        refine ⟨none, ?_, trivial, rfl⟩
        rw [List.getElem?_append_right (by simpa [hl] using Nat.not_lt.mp q), List.length_map, List.getElem?_replicate, hl, if_pos h1]
      · cases e
  refine ⟨.refl hF (fun _ e => nomatch e), ?_, fun i s e => ?_, fun i a h => ?_, fun i j a h _ => ?_, fun _ e => nomatch e⟩
  · unfold L2.start startE
    simp [hl]
  · obtain ⟨ov, h1, h2, _⟩ := key i s e
    exact ⟨ov, h1, h2⟩
  · obtain ⟨_, s, es, so⟩ := h
    obtain ⟨_, _, _, n⟩ := key i s es
    rw [n] at so; cases so
  · obtain ⟨_, s, es, so⟩ := h
    obtain ⟨_, _, _, n⟩ := key i s es
    rw [n] at so; cases so
/-- what a def's body wants -/
def fnE (R : D → Prop) : DEnds := { nx := fun _ => R .none, rt := R }
end
section
variable {P : Program} {w : World} {K : PySem.W.Frag} {mg : Str → Option Value} {base : Heap}
/-- THE RULE for a def: its body as a reading, and that the promise leads to the reading -/
theorem def_ok {x qual : Str} {st : Stmt} {f : Addr} {fd : FuncData} {N ps : List Str} {k : Nat} {sp : Lay.Spec} {m : DTS} (F : Fun K x qual st f fd) (S : FnScope N ps (defScope st))
    (body : ∀ (cdv : Value) (A : Around) (outer : List Env) (s : Shared) (H : Hp) (E : XK) (c : Ct), Room k (A.deeper (envOfC qual (defScope st) s.heap.objs.size f cdv)) → DSs (cxOf CX0 P w K mg base N qual (defScope st) f cdv A outer s H E).nox c (defBody st) m)
    (ok : ∀ ds R, ds.length = ps.length → sp ds R → m (fnE R) (startE N.length ds)) : FnOk P w K mg base CX0 (k + 1) f fd ps (liftSp K ps.length sp) := by
  refine F.ok S (fun vs H Q E h => ?_) (fun cdv A outer s H vs Q E hr h => ?_)
  · obtain ⟨_, _, _, h, _⟩ := h
    exact h
  obtain ⟨F0, ds, R, hl, hF, rv, hsp, kk⟩ := h
  refine ⟨_, (body cdv A outer s H E ⟨none, F0, H⟩ hr).run, ?_⟩
  refine ⟨F0, startE N.length ds, fnE R, sr_start hF rv, ok ds R (by rw [← rv.len]; exact hl) hsp, fun en' σ' F' H' a b _ => ?_, fun d v F' H' a b c => kk d a v F' H' b c, fun en' σ' F' H' a b _ => a.elim, fun en' σ' F' H' a b _ => a.elim⟩
  exact kk _ a _ F' H' b.ext .non
end
end Lay
namespace Lay
open PySem PySem.Spec L2
open PyProof.Rows hiding St

section
variable {X : Cx} {c : Ct} {e a b : Expr} {es : List Expr} {m ma mb : DTE} {ml : DTA} {mt mu : DTT} {pos : Pos} {s1 : DTS}
theorem nv (i : Nat) {x : Str} (hN : X.N[i]? = some x := by rfl) (hv : Vis X.env.scope x := by first | exact Or.inl rfl | exact Or.inr (Or.inl rfl) | exact Or.inr (Or.inr rfl)) (hd : (x == ("__debug__" : Str)) = false := by decide)
    (hcd : (x == ("__classdict__" : Str)) = false := by decide) : DE X c (.Name x pos) (dVar i) := de_var hN hv hd hcd
theorem gn (i : Nat) (hN : X.N.Nodup) {x : Str} (hi : X.N[i]? = some x := by rfl) (hx : Loc X.env.scope x := by first | exact Or.inl rfl | exact Or.inr rfl) (hf : X.fn x = true ∨ X.env.scope.names.lookup x = some .local := by first | exact .inl rfl | exact .inr rfl) : DG X c (.Name x pos) [i] (gNm i) := dg_name hN hi hx hf
theorem sset (i : Nat) {x : Str} {pos' : Pos} (hN : X.N.Nodup) (he : DE X c e m) (hi : X.N[i]? = some x := by rfl) (hx : Loc X.env.scope x := by first | exact Or.inl rfl | exact Or.inr rfl) (hs : swapsWith e (some (.Name x pos')) pos.line X.env = pure false := by rfl) (hf : X.fn x = true ∨ X.env.scope.names.lookup x = some .local := by first | exact .inl rfl | exact .inr rfl) :
    DS X c (.Assign [.Name x pos'] e pos) (dAsg m (gNm i)) := ds_set hN hi hx he hs hf
theorem sown (i : Nat) {x : Str} {pos' spos : Pos} (hN : X.N.Nodup) (ha : DA X c es ml) (hi : X.N[i]? = some x := by rfl) (hx : Loc X.env.scope x := by first | exact Or.inl rfl | exact Or.inr rfl) (hz : es.length ≤ sizeLine := by decide) (hs : swapsWith (.List es pos) (some (.Name x pos')) pos.line X.env = pure false := by rfl) (hf : X.fn x = true ∨ X.env.scope.names.lookup x = some .local := by first | exact .inl rfl | exact .inr rfl) (hs' : swapsWith (.List es pos) (some (.Name x pos')) spos.line X.env = pure false := by rfl) :
    DS X c (.Assign [.Name x pos'] (.List es pos) spos) (dOwn i ml) := ds_own hN hi hx ha hz hs hf hs'
theorem sownL (i : Nat) {x : Str} {p pos' spos : Pos} (hN : X.N.Nodup) (hm : X.mg "list" = none) (ha : DA X c [a] ml) (hg : Gl X "list" := by rfl) (hi : X.N[i]? = some x := by rfl) (hx : Loc X.env.scope x := by first | exact Or.inl rfl | exact Or.inr rfl) (hs : swapsWith (.Call (.Name "list" p) [a] [] pos) (some (.Name x pos')) spos.line X.env = pure false := by rfl)
    (he : starEach [a] X.env = (false, eval a X.env) :: starEach [] X.env := by rfl) (hpl : (backTo pos (starEach [] X.env)).any (·.1) = false := by rfl) (hf : X.fn x = true ∨ X.env.scope.names.lookup x = some .local := by first | exact .inl rfl | exact .inr rfl) :
    DS X c (.Assign [.Name x pos'] (.Call (.Name "list" p) [a] [] pos) spos) (dOwnL i ml) := ds_ownL hg hm hN hi hx ha hs he hpl hf
theorem saug (i : Nat) {x : Str} {op : Operator} {f : Int → Int → Int} {pos' : Pos} (ho : PIp X op (ipI f)) (hN : X.N.Nodup) (he : DE X c e m) (hi : X.N[i]? = some x := by rfl) (hx : Loc X.env.scope x := by first | exact Or.inl rfl | exact Or.inr rfl) (hf : X.fn x = true ∨ X.env.scope.names.lookup x = some .local := by first | exact .inl rfl | exact .inr rfl) :
    DS X c (.AugAssign (.Name x pos') op e pos) (dAug i f m) := ds_aug ho hN hi hx he hf
theorem sapp (i : Nat) {x : Str} {px ap spos : Pos} (ha : DE X c e m) (hN : X.N[i]? = some x := by rfl) (hv : Vis X.env.scope x := by first | exact Or.inl rfl | exact Or.inr (Or.inl rfl) | exact Or.inr (Or.inr rfl)) (hd : (x == ("__debug__" : Str)) = false := by decide) (hcd : (x == ("__classdict__" : Str)) = false := by decide)
    (hbase : attributeBase (.Name x px) "append" X.env (eval (.Name x px) X.env) = eval (.Name x px) X.env := by rfl)
    (hfew : ((backTo pos (starEach [e] X.env)).all (fun x => !x.1) && (backToKw pos (keywordEach [] X.env)).all (fun x => x.1.isSome) && decide ([e].length + ([] : List Keyword).length + (if ([] : List Keyword).isEmpty then 0 else 1) < 30)) = true := by rfl)
    (hline : (ap.endLine == pos.line) = true := by rfl) (hst : starEach [e] X.env = (false, eval e X.env) :: starEach [] X.env := by rfl) (hplain : (backTo pos (starEach [] X.env)).any (·.1) = false := by rfl)
    (hs : swapsWith (.Call (.Attribute (.Name x px) "append" ap) [e] [] pos) none spos.line X.env = pure false := by rfl) : DS X c (.Expr (.Call (.Attribute (.Name x px) "append" ap) [e] [] pos) spos) (dApp i m) :=
  ds_app hN hv ha hbase (pe_bm PySem.F.plainAttrs_list PySem.F.slot_list_append PySem.F.type_list_append mt_append (pe_var hN hv hd hcd) (pa_cons ha.run pa_nil hst) hbase hfew hline hst hplain) hs
theorem sext (i : Nat) {x : Str} {px ap spos : Pos} (ha : DE X c e m) (hN : X.N[i]? = some x := by rfl) (hv : Vis X.env.scope x := by first | exact Or.inl rfl | exact Or.inr (Or.inl rfl) | exact Or.inr (Or.inr rfl)) (hd : (x == ("__debug__" : Str)) = false := by decide) (hcd : (x == ("__classdict__" : Str)) = false := by decide)
    (hbase : attributeBase (.Name x px) "extend" X.env (eval (.Name x px) X.env) = eval (.Name x px) X.env := by rfl)
    (hfew : ((backTo pos (starEach [e] X.env)).all (fun x => !x.1) && (backToKw pos (keywordEach [] X.env)).all (fun x => x.1.isSome) && decide ([e].length + ([] : List Keyword).length + (if ([] : List Keyword).isEmpty then 0 else 1) < 30)) = true := by rfl)
    (hline : (ap.endLine == pos.line) = true := by rfl) (hst : starEach [e] X.env = (false, eval e X.env) :: starEach [] X.env := by rfl) (hplain : (backTo pos (starEach [] X.env)).any (·.1) = false := by rfl)
    (hs : swapsWith (.Call (.Attribute (.Name x px) "extend" ap) [e] [] pos) none spos.line X.env = pure false := by rfl) : DS X c (.Expr (.Call (.Attribute (.Name x px) "extend" ap) [e] [] pos) spos) (dExt i m) :=
  ds_ext ha (pe_bm PySem.F.plainAttrs_list PySem.F.slot_list_extend PySem.F.type_list_extend mt_extend (pe_var hN hv hd hcd) (pa_cons ha.run pa_nil hst) hbase hfew hline hst hplain) hs
theorem spar (i j : Nat) {x y : Str} {px py pt : Pos} {kt k2 pt2} (hN : X.N.Nodup) (ha : DA X c [a, b] ml) (hc : X.calm = true := by rfl) (hi : X.N[i]? = some x := by rfl) (hj : X.N[j]? = some y := by rfl) (hij : i ≠ j := by decide)
    (hx : X.env.scope.names.lookup x = some .local := by rfl) (hy : X.env.scope.names.lookup y = some .local := by rfl)
    (hw : swappedStores [.Tuple [.Name x px, .Name y py] kt pt] (.Tuple [a, b] k2 pt2) X.env = pure (some [x, y]) := by rfl)
    (hs : swapsWithSole [.Tuple [.Name x px, .Name y py] kt pt] (.Tuple [a, b] k2 pt2) pos.line X.env = pure false := by rfl) :
    DS X c (.Assign [.Tuple [.Name x px, .Name y py] kt pt] (.Tuple [a, b] k2 pt2) pos) (dPar i j ml) := ds_par hc hN hi hj hij hx hy ha hw hs
/-- a def that stands and keeps its promise -/
def Has (P : Program) (w : World) (K : PySem.W.Frag) (mg : Str → Option Value) (base : Heap) (k : Nat) (x : Str) (ps : List Str) (sp : Sp) : Prop :=
  ∃ f fd, FnOk P w K mg base CX0 k f fd ps sp ∧ mg x = some (.ref f) ∧ PySem.W.keepIn K (.ref f) = true ∧ Binds K fd ps []
theorem kall {x : Str} {p : Pos} {k j : Nat} {ps : List Str} {sp : Lay.Spec} (G : Has X.prog X.w X.K X.mg X.base j x ps (liftSp X.K ps.length sp)) (hr : Room k X.A) (ha : DA X c (e :: es) ml) (hj : j ≤ k := by decide) (hg : Gl X x := by rfl)
    (hl : (e :: es).length = ps.length := by rfl) (hdb : (x == ("__debug__" : Str)) = false := by decide) (he : starEach (e :: es) X.env = (false, eval e X.env) :: starEach es X.env := by rfl) (hpl : (backTo pos (starEach es X.env)).any (·.1) = false := by rfl) :
    DE X c (.Call (.Name x p) (e :: es) [] pos) (dCall sp ml) := by
  obtain ⟨f, fd, G, hm, hk, hb⟩ := G
  exact de_call G (hr.mono hj) hg hm hk hb ha hl hdb he hpl
theorem kallW (i : Nat) {x y : Str} {p py : Pos} {k j : Nat} {ps : List Str} {sp : Lay.Spec} (G : Has X.prog X.w X.K X.mg X.base j x ps (liftSpW X.K (ps.length - 1) sp)) (hr : Room k X.A) (ha : DA X c es ml) (hj : j ≤ k := by decide) (hg : Gl X x := by rfl)
    (hN : X.N[i]? = some y := by rfl) (hv : Vis X.env.scope y := by first | exact Or.inl rfl | exact Or.inr (Or.inl rfl) | exact Or.inr (Or.inr rfl))
    (hl : es.length = ps.length - 1 := by rfl) (hdb : (x == ("__debug__" : Str)) = false := by decide) (he : starEach (.Name y py :: es) X.env = (false, eval (.Name y py) X.env) :: starEach es X.env := by rfl) (hpl : (backTo pos (starEach es X.env)).any (·.1) = false := by rfl)
    (hd : (y == ("__debug__" : Str)) = false := by decide) (hcd : (y == ("__classdict__" : Str)) = false := by decide) :
    DE X c (.Call (.Name x p) (.Name y py :: es) [] pos) (dCallW i sp ml) := by
  obtain ⟨f, fd, G, hm, hk, hb⟩ := G
  exact de_callW G (hr.mono hj) hg hm hk hb hN hv ha hl hdb he hpl hd hcd

def dLenS (i : Nat) (en : En) (Q : D → Prop) : Prop := onScr (gt en i) fun ns => Q (.int ns.length)
theorem de_lenS (i : Nat) {x : Str} {p px : Pos} (hm : X.mg "len" = none) (hg : Gl X "len" := by rfl) (hN : X.N[i]? = some x := by rfl) (hv : Vis X.env.scope x := by first | exact Or.inl rfl | exact Or.inr (Or.inl rfl) | exact Or.inr (Or.inr rfl)) (hd : (x == ("__debug__" : Str)) = false := by decide) (hcd : (x == ("__classdict__" : Str)) = false := by decide)
    (he : starEach [.Name x px] X.env = (false, eval (.Name x px) X.env) :: starEach [] X.env := by rfl) (hpl : (backTo pos (starEach [] X.env)).any (·.1) = false := by rfl) : DE X c (.Call (.Name "len" p) [.Name x px] [] pos) (dLenS i) := by
  refine ⟨PE.imp (pe_callB call_len_seq hg hm PySem.boot_len (pa_cons (pe_var hN hv hd hcd) pa_nil he) (by decide) (by decide) he hpl) fun σ H Q h => ?_⟩
  obtain ⟨F, en, R, r, h, k⟩ := h
  unfold dLenS onScr at h
  split at h
  · rename_i ns hg
    obtain ⟨ov, e1, p, e2, e3⟩ := r.sl i _ (gt_get hg (fun z => nomatch z))
    subst e2
    exact ⟨_, e1, p, _, rfl, .inl (sqL_mono r.fh e3), by rw [List.length_map]; exact k _ h _ F H r.ext.self (.int _)⟩
  · exact h.elim
def optI (o : Option Int) (Q : D → Prop) : Prop := match o with | some n => Q (.int n) | none => False
def dIxS (i : Nat) (m : DTE) (en : En) (Q : D → Prop) : Prop := onScr (gt en i) fun ns => m en fun d => onInt d fun j => optI (atI ns j) Q
theorem atI_map {α β : Type} {f : α → β} {xs : List α} {i : Int} {x : α} (h : atI xs i = some x) : atI (xs.map f) i = some (f x) := by
  unfold atI at h ⊢
  rw [List.length_map]
  cases q : ixN xs.length i with
  | none => rw [q] at h; cases h
  | some j =>
    rw [q] at h
    show (xs.map f)[j]? = _
    rw [List.getElem?_map, show xs[j]? = some x from h]; rfl
theorem de_ixS (i : Nat) {x : Str} {px : Pos} (hb : DE X c b mb) (hs : PlainIx b := by exact fun _ _ => rfl) (hN : X.N[i]? = some x := by rfl) (hv : Vis X.env.scope x := by first | exact Or.inl rfl | exact Or.inr (Or.inl rfl) | exact Or.inr (Or.inr rfl)) (hd : (x == ("__debug__" : Str)) = false := by decide) (hcd : (x == ("__classdict__" : Str)) = false := by decide) :
    DE X c (.Subscript (.Name x px) b pos) (dIxS i mb) := by
  refine ⟨PE.imp (pe_ix ix_seq (pe_var hN hv hd hcd) hb.run hs) fun σ H Q h => ?_⟩
  obtain ⟨F, en, R, r, h, k⟩ := h
  unfold dIxS onScr at h
  split at h
  · rename_i ns hg
    obtain ⟨ov, e1, p, e2, e3⟩ := r.sl i _ (gt_get hg (fun z => nomatch z))
    subst e2
    refine ⟨_, e1, F, en, _, r, h, fun d hd v F' H' x rv => ?_⟩
    cases d with
    | int j =>
      have hd : optI (atI ns j) R := hd
      cases q : atI ns j with
      | none => rw [q] at hd; exact False.elim hd
      | some n =>
        rw [q] at hd
        cases rv
        exact .inl ⟨p, _, j, _, rfl, rfl, sqL_mono x.fh (sqL_mono x.ff e3), atI_map (f := V.int) q, k _ hd _ F' H' x (.int _)⟩
    | _ => exact False.elim hd
  · exact h.elim
end

section
variable {P : Program} {w : World} {K : PySem.W.Frag} {mg : Str → Option Value} {base : Heap}
theorem SR.head {F H : Hp} {σ : St} {en : En} {ov : Option V} {s : Sl} {c : Ct} (r : SR K c F σ H en) (n : s.isOwn = false) (h : SlR K c F H ov s) : SR K c F (ov :: σ) H (s :: en) where
  ext := r.ext
  len := by simp [r.len]
  sl := fun i u e => by
    cases i with
    | zero =>
      rw [List.getElem?_cons_zero] at e
      cases e
      exact ⟨ov, rfl, h⟩
    | succ i =>
      rw [List.getElem?_cons_succ] at e ⊢
      exact r.sl i u e
  own := fun i a z => by
    obtain ⟨e, u, eu, ou⟩ := z
    cases i with
    | zero =>
      rw [List.getElem?_cons_zero] at eu
      cases eu
      rw [n] at ou; cases ou
    | succ i =>
      rw [List.getElem?_cons_succ] at eu e
      exact r.own i a ⟨e, u, eu, ou⟩
  apart := fun i j a z1 z2 => by
    obtain ⟨e, u, eu, ou⟩ := z1
    obtain ⟨e', u', eu', ou'⟩ := z2
    cases i with
    | zero =>
      rw [List.getElem?_cons_zero] at eu
      cases eu
      rw [n] at ou; cases ou
    | succ i =>
      cases j with
      | zero =>
        rw [List.getElem?_cons_zero] at eu'
        cases eu'
        rw [n] at ou'; cases ou'
      | succ j =>
        rw [List.getElem?_cons_succ] at eu e eu' e'
        rw [r.apart i j a ⟨e, u, eu, ou⟩ ⟨e', u', eu', ou'⟩]
  wn := r.wn
theorem sr_startG {N : List Str} {F H : Hp} {wo : Option (Addr × Addr)} {vs : List V} {ds : List D} (hF : ∀ a o, F a = some o → H a = some o) (hw : ∀ p, wo = some p → WOk H p ∧ F p.1 = none) (r : Reps K F vs ds) (n : Nat) : SR K ⟨wo, F, H⟩ F (vs.map some ++ List.replicate n none) H (ds.map .val ++ List.replicate n .un) := by
  have hl := r.len
  have key : ∀ (i : Nat) s, (ds.map Sl.val ++ List.replicate n Sl.un)[i]? = some s → ∃ ov, (vs.map some ++ List.replicate n none)[i]? = some ov ∧ SlR K ⟨wo, F, H⟩ F H ov s ∧ s.isOwn = false := fun i s e => by
    by_cases q : i < ds.length
    · rw [List.getElem?_append_left (by simpa using q), List.getElem?_map, List.getElem?_eq_getElem q] at e
      cases e
      obtain ⟨v, h1, h2⟩ := r.get (List.getElem?_eq_getElem q)
      exact ⟨some v, by rw [List.getElem?_append_left (by simpa [hl] using q), List.getElem?_map, h1]; rfl, ⟨v, rfl, h2⟩, rfl⟩
    · rw [List.getElem?_append_right (by simpa using Nat.not_lt.mp q), List.length_map, List.getElem?_replicate] at e
      split at e
      · rename_i h1
        cases e
        refine ⟨none, ?_, trivial, rfl⟩
        rw [List.getElem?_append_right (by simpa [hl] using Nat.not_lt.mp q), List.length_map, List.getElem?_replicate, hl, if_pos h1]
      · cases e
  refine ⟨.refl hF (fun p e => (hw p e).1), ?_, fun i s e => ?_, fun i a h => ?_, fun i j a h _ => ?_, fun p e => (hw p e).2⟩
  · simp [hl]
  · obtain ⟨ov, h1, h2, _⟩ := key i s e
    exact ⟨ov, h1, h2⟩
  · obtain ⟨_, s, es, so⟩ := h
    obtain ⟨_, _, _, n⟩ := key i s es
    rw [n] at so; cases so
  · obtain ⟨_, s, es, so⟩ := h
    obtain ⟨_, _, _, n⟩ := key i s es
    rw [n] at so; cases so
theorem start_cons {N : List Str} {v : V} {vs : List V} : L2.start N (v :: vs) = some v :: (vs.map some ++ List.replicate (N.length - (vs.length + 1)) none) := rfl
def startW (n : Nat) (ds : List D) : En := .wv :: (ds.map .val ++ List.replicate (n - (ds.length + 1)) .un)
theorem def_okW {x qual : Str} {st : Stmt} {f : Addr} {fd : FuncData} {N ps : List Str} {k : Nat} {sp : Lay.Spec} {m : DTS} (F : Fun K x qual st f fd) (S : FnScope N ps (defScope st)) (hp : ps ≠ [])
    (body : ∀ (cdv : Value) (A : Around) (outer : List Env) (s : Shared) (H : Hp) (E : XK) (c : Ct), Room k (A.deeper (envOfC qual (defScope st) s.heap.objs.size f cdv)) → DSs (cxOf CX0 P w K mg base N qual (defScope st) f cdv A outer s H E).nox c (defBody st) m)
    (ok : ∀ ds R, ds.length = ps.length - 1 → sp ds R → m (fnE R) (startW N.length ds)) : FnOk P w K mg base CX0 (k + 1) f fd ps (liftSpW K (ps.length - 1) sp) := by
  have hpos : 0 < ps.length := List.length_pos_iff.mpr hp
  refine F.ok S (fun vs H Q E h => ?_) (fun cdv A outer s H vs Q E hr h => ?_)
  · obtain ⟨_, _, _, _, _, rfl, h, _⟩ := h
    rw [List.length_cons, h]
    omega
  obtain ⟨p, us, F0, ds, R, rfl, hl, hF, hn, hw, rv, hsp, kk⟩ := h
  refine ⟨_, (body cdv A outer s H E ⟨some p, F0, H⟩ hr).run, ?_⟩
  have r0 := sr_startG (N := N) (wo := some p) hF (fun q e => by cases e; exact ⟨hw, hn⟩) rv (N.length - (us.length + 1))
  have r1 := r0.head (s := .wv) (ov := some (.ref p.1)) rfl ⟨p.1, rfl, p.2, rfl⟩
  refine ⟨F0, startW N.length ds, fnE R, ?_, ok ds R (by rw [← rv.len]; exact hl) hsp, fun en' σ' F' H' a b _ => ?_, fun d v F' H' a b c => kk d a v F' H' b c, fun en' σ' F' H' a b _ => a.elim, fun en' σ' F' H' a b _ => a.elim⟩
  · rw [start_cons]
    unfold startW
    rw [← rv.len]
    exact r1
  · exact kk _ a _ F' H' b.ext .non
/-- f(script, ..) -/
def liftSpS (K : PySem.W.Frag) (n : Nat) (sp : List Int → Lay.Spec) : Sp := fun vs H Q _ => ∃ (a : Addr) (ns : List Int) (us : List V) (F : Hp) (ds : List D) (R : D → Prop), vs = .ref a :: us ∧ us.length = n ∧ SqL K F a (ns.map V.int) ∧ ns.length ≤ 63 ∧ (∀ a o, F a = some o → H a = some o) ∧
  Reps K F us ds ∧ sp ns ds R ∧ ∀ d, R d → ∀ v F' H', Ext none F H F' H' → Rep K F' v d → Q v H'
def startS (n : Nat) (ns : List Int) (ds : List D) : En := .scr ns :: (ds.map .val ++ List.replicate (n - (ds.length + 1)) .un)
theorem def_okS {x qual : Str} {st : Stmt} {f : Addr} {fd : FuncData} {N ps : List Str} {k : Nat} {sp : List Int → Lay.Spec} {m : DTS} (F : Fun K x qual st f fd) (S : FnScope N ps (defScope st)) (hp : ps ≠ [])
    (body : ∀ (cdv : Value) (A : Around) (outer : List Env) (s : Shared) (H : Hp) (E : XK) (c : Ct), Room k (A.deeper (envOfC qual (defScope st) s.heap.objs.size f cdv)) → DSs (cxOf CX0 P w K mg base N qual (defScope st) f cdv A outer s H E).nox c (defBody st) m)
    (ok : ∀ ns ds R, ds.length = ps.length - 1 → ns.length ≤ 63 → sp ns ds R → m (fnE R) (startS N.length ns ds)) : FnOk P w K mg base CX0 (k + 1) f fd ps (liftSpS K (ps.length - 1) sp) := by
  have hpos : 0 < ps.length := List.length_pos_iff.mpr hp
  refine F.ok S (fun vs H Q E h => ?_) (fun cdv A outer s H vs Q E hr h => ?_)
  · obtain ⟨_, _, _, _, _, _, rfl, h, _⟩ := h
    rw [List.length_cons, h]
    omega
  obtain ⟨a, ns, us, F0, ds, R, rfl, hl, hs, h63, hF, rv, hsp, kk⟩ := h
  refine ⟨_, (body cdv A outer s H E ⟨none, F0, H⟩ hr).run, ?_⟩
  have r0 := sr_startG (N := N) (wo := none) hF (fun q e => nomatch e) rv (N.length - (us.length + 1))
  have r1 := r0.head (s := .scr ns) (ov := some (.ref a)) rfl ⟨a, rfl, hs⟩
  refine ⟨F0, startS N.length ns ds, fnE R, ?_, ok ns ds R (by rw [← rv.len]; exact hl) h63 hsp, fun en' σ' F' H' a b _ => ?_, fun d v F' H' a b c => kk d a v F' H' b c, fun en' σ' F' H' a b _ => a.elim, fun en' σ' F' H' a b _ => a.elim⟩
  · rw [start_cons]
    unfold startS
    rw [← rv.len]
    exact r1
  · exact kk _ a _ F' H' b.ext .non

/-- draws: some list of ints from 0 below 997 -/
def sp_draws : List Int → Lay.Spec := fun _ ds R => match ds with | [.int many] => (0 ≤ many ∧ many ≤ 1000) ∧ ∀ ms : List Int, (∀ r ∈ ms, 0 ≤ r ∧ r < 997) → R (.list (ms.map .int)) | _ => False
/-- the next draw: any int from 0 below many (and 997) -/
def sp_next : Lay.Spec := fun ds R => match ds with | [.int many] => 0 < many ∧ ∀ r : Int, 0 ≤ r → r < many → r < 997 → R (.int r) | _ => False
/-- what law(script) promises -/
def spLaw (K : PySem.W.Frag) : Sp := fun vs H Q _ => ∃ (a : Addr) (ns : List Int), vs = [.ref a] ∧ SqL K H a (ns.map V.int) ∧ ns.length ≤ 63 ∧ ∀ H', Q (.bl true) H'
theorem dss_any {X : Cx} {sts : List Stmt} {m : DTS} (h : ∀ c, DSs X c sts m) : PSs X sts (fun D σ H => ∃ c, liftS X.K c m D σ H) := ⟨fun pins s σ H D I ⟨c, q⟩ => (h c).run.run pins s σ H D I q⟩
/-- the law: w = {"draws": _law_draws(script, many), "at": 0}, then the rest -/
theorem law_ok {st : Stmt} {f : Addr} {fd : FuncData} {N : List Str} {k : Nat} {many : Int} {m : DTS} {rest : List Stmt} {s1 : Stmt} (F : Fun K "law" "law" st f fd) (S : FnScope N ["script"] (defScope st)) (hN : 2 ≤ N.length) (hmany : 0 ≤ many ∧ many ≤ 1000)
    (hb : defBody st = s1 :: rest)
    (first : ∀ (cdv : Value) (A : Around) (outer : List Env) (s : Shared) (H : Hp) (E : XK), Room k (A.deeper (envOfC "law" (defScope st) s.heap.objs.size f cdv)) →
      PS (cxOf CX0 P w K mg base N "law" (defScope st) f cdv A outer s H E).nox s1 (tAsg (tDisp [(tC (.str "draws"), tCall (liftSpS K 1 sp_draws) [] E0 (tCons (tVar 0) (tCons (tC (.int many)) tNil))), (tC (.str "at"), tC (.int 0))]) (gName 1)))
    (body : ∀ (cdv : Value) (A : Around) (outer : List Env) (s : Shared) (H : Hp) (E : XK) (c : Ct), Room k (A.deeper (envOfC "law" (defScope st) s.heap.objs.size f cdv)) → DSs (cxOf CX0 P w K mg base N "law" (defScope st) f cdv A outer s H E).nox c rest m)
    (ok : m (fnE fun d => d = .bool true) (.un :: .wv :: List.replicate (N.length - 2) .un)) : FnOk P w K mg base CX0 (k + 1) f fd ["script"] (spLaw K) := by
  refine F.ok S (fun vs H Q E h => ?_) (fun cdv A outer s H vs Q E hr h => ?_)
  · obtain ⟨a, ns, rfl, _⟩ := h
    rfl
  obtain ⟨a, ns, rfl, hS, h63, kk⟩ := h
  rw [hb]
  refine ⟨_, pss_cons (first cdv A outer s H E hr) (dss_any fun c => body cdv A outer s H E c hr), ?_⟩
  intro p hp
  have np : ∀ b o, H b = some o → b ≠ p := fun b o e => ne_of_none e hp
  have hS1 : SqL K (upd H p (.dK [])) a (ns.map V.int) := by
    rcases hS with (h | ⟨o, h⟩) | h
    · exact .inl (.inl (by rw [upd_ne (np _ _ h)]; exact h))
    · exact .inl (.inr ⟨o, by rw [upd_ne (np _ _ h)]; exact h⟩)
    · exact .inr h
  refine ⟨.ref a, rfl, ?_⟩
  refine ⟨a, ns, [.int many], fun b => if b = a then upd H p (.dK []) b else none, [.int many], fun d => ∃ ms' : List Int, d = .list (ms'.map .int) ∧ ∀ r ∈ ms', 0 ≤ r ∧ r < 997, rfl, rfl, ?_, h63, fun b o e => ?_, .cons (.int _) .nil, ⟨hmany, fun ms hms => ⟨ms, rfl, hms⟩⟩, fun d hd v F' H' x rv => ?_⟩
  · rcases hS1 with (h | ⟨o, h⟩) | h
    · exact .inl (.inl (by simp only [if_pos]; exact h))
    · exact .inl (.inr ⟨o, by simp only [if_pos]; exact h⟩)
    · exact .inr h
  · by_cases q : b = a
    · simp only [q, if_pos] at e ⊢; exact e
    · simp only [q, if_neg, not_false_eq_true] at e; cases e
  · obtain ⟨ms, rfl, hms⟩ := hd
    obtain ⟨da, xs, rfl, g1, g2, g3⟩ := rv.lstI
    have exs := g2.ints_inv
    subst exs
    have h1 := x.hh p _ upd_same notW
    have h2 := x.fh _ _ g1
    refine ⟨h1, [(.inr "draws", .ref da), (.inr "at", .int 0)], rfl, by show 2 ≤ 15; decide, ?_⟩
    have ndp : da ≠ p := ne_of h2 h1 (by intro z; cases z)
    refine ⟨⟨some (p, da), fun _ => none, upd H' p (.dK (mergeK [] [(.inr "draws", .ref da), (.inr "at", .int 0)]))⟩, fun _ => none, .un :: .wv :: List.replicate (N.length - 2) .un, fnE fun d => d = .bool true, ?_, ok, fun en' σ' F' H' a b _ => (by cases a), fun d v F' H' a b c => ?_, fun en' σ' F' H' a b _ => a.elim, fun en' σ' F' H' a b _ => a.elim⟩
    · have hw : WOk (upd H' p (.dK (mergeK [] [(.inr "draws", .ref da), (.inr "at", .int 0)]))) (p, da) :=
        ⟨0, ms, by rw [upd_same]; rfl, by rw [upd_ne ndp]; exact h2, Int.le_refl 0, hms⟩
      have r0 := sr_startG (K := K) (N := N) (wo := some (p, da)) (F := fun _ => none) (H := upd H' p (.dK (mergeK [] [(.inr "draws", .ref da), (.inr "at", .int 0)]))) (vs := []) (ds := []) (fun _ _ e => nomatch e) (fun q e => by cases e; exact ⟨hw, rfl⟩) .nil (N.length - 2)
      have r1 := (r0.head (s := .wv) (ov := some (.ref p)) rfl ⟨p, rfl, da, rfl⟩).head (s := .un) (ov := some (.ref a)) rfl trivial
      have eσ : (L2.start N [V.ref a]).set 1 (some (.ref p)) = some (.ref a) :: some (.ref p) :: List.replicate (N.length - 2) none := by
        show (some (V.ref a) :: List.replicate (N.length - 1) none).set 1 (some (.ref p)) = _
        have : N.length - 1 = (N.length - 2) + 1 := by omega
        rw [this]
        rfl
      show SR K _ _ ((L2.start N [V.ref a]).set 1 (some (.ref p))) _ _
      rw [eσ]
      exact r1
    · have e : d = .bool true := a
      subst e
      cases c
      exact kk _
end
end Lay
namespace Lay
open PySem PySem.Spec L2
open PyProof.Rows hiding St

theorem shaped_int (i : Int) : SeqAt.shaped (.int i) = true := rfl
theorem shaped_bool (i : Bool) : SeqAt.shaped (.bool i) = true := rfl
theorem shaped_none : SeqAt.shaped .none = true := rfl
theorem shaped_listI (xs : List Int) : SeqAt.shaped (.list (xs.map .int)) = true := by
  have h1 : ∀ xs : List Int, PyData.canLayAll0 (xs.map .int) = true := fun xs => by
    induction xs with
    | nil => rfl
    | cons x xs ih => rw [List.map_cons, PyData.canLayAll0, ih]; rfl
  have h2 : ∀ xs : List Int, PyData.depthAll (xs.map .int) = 0 := fun xs => by
    induction xs with
    | nil => rfl
    | cons x xs ih => rw [List.map_cons, PyData.depthAll, ih]; rfl
  show (PyData.canLayAll0 (xs.map .int) && decide (PyData.depthAll (xs.map .int) + 1 ≤ 64)) = true
  rw [h1, h2]
  rfl
theorem shaped_tupI (xs : List Int) : SeqAt.shaped (.tuple (xs.map .int)) = true := by
  exact shaped_listI xs
theorem shaped_nilL : SeqAt.shaped (.list []) = true := shaped_listI []
theorem shaped_nilT : SeqAt.shaped (.tuple []) = true := shaped_tupI []
theorem cl_int (i : Int) : PyData.canLay0 (.int i) = true := rfl
theorem cl_bool (i : Bool) : PyData.canLay0 (.bool i) = true := rfl
theorem cl_none : PyData.canLay0 .none = true := rfl
theorem cl_tup (ds : List D) : PyData.canLay0 (.tuple ds) = PyData.canLayAll0 ds := rfl
theorem cl_lst (ds : List D) : PyData.canLay0 (.list ds) = PyData.canLayAll0 ds := rfl
theorem cl_nil : PyData.canLayAll0 [] = true := rfl
theorem cl_cons (d : D) (ds : List D) : PyData.canLayAll0 (d :: ds) = (PyData.canLay0 d && PyData.canLayAll0 ds) := rfl
theorem dp_int (i : Int) : PyData.depth (.int i) = 0 := rfl
theorem dp_bool (i : Bool) : PyData.depth (.bool i) = 0 := rfl
theorem dp_str (i : Str) : PyData.depth (.str i) = 0 := rfl
theorem dp_none : PyData.depth .none = 0 := rfl
theorem dp_tup (ds : List D) : PyData.depth (.tuple ds) = PyData.depthAll ds + 1 := rfl
theorem dp_lst (ds : List D) : PyData.depth (.list ds) = PyData.depthAll ds + 1 := rfl
theorem dp_nil : PyData.depthAll [] = 0 := rfl
theorem dp_cons (d : D) (ds : List D) : PyData.depthAll (d :: ds) = max (PyData.depth d) (PyData.depthAll ds) := rfl
theorem eqv_int (i j : Int) : PyData.eqv (.int i) (.int j) = decide (i = j) := by rw [PyData.eqv]; exact Bool.beq_eq_decide_eq i j
theorem eqv_bool (i j : Bool) : PyData.eqv (.bool i) (.bool j) = decide (i = j) := by rw [PyData.eqv]; exact Bool.beq_eq_decide_eq i j
theorem eqv_str (i j : Str) : PyData.eqv (.str i) (.str j) = decide (i = j) := by rw [PyData.eqv]; exact Bool.beq_eq_decide_eq i j
theorem eqv_none : PyData.eqv .none .none = true := rfl
theorem eqv_list_nil (xs : List D) : PyData.eqv (.list xs) (.list []) = xs.isEmpty := by
  cases xs with
  | nil => rfl
  | cons x xs => rfl
theorem not_dec (p : Prop) [Decidable p] : ((!decide p) = true) = ¬ p := by simp
theorem atI_0 {α : Type} (x : α) (xs : List α) : atI (x :: xs) 0 = some x := by
  unfold atI ixN
  rw [if_pos (by decide), if_pos (by simp only [List.length_cons]; omega)]
  rfl
theorem atI_1 {α : Type} (x y : α) (xs : List α) : atI (x :: y :: xs) 1 = some y := by
  unfold atI ixN
  rw [if_pos (by decide), if_pos (by simp only [List.length_cons]; omega)]
  rfl
theorem atI_2 {α : Type} (x y z : α) (xs : List α) : atI (x :: y :: z :: xs) 2 = some z := by
  unfold atI ixN
  rw [if_pos (by decide), if_pos (by simp only [List.length_cons]; omega)]
  rfl
theorem atI_at {α : Type} {xs : List α} {i : Int} (h0 : 0 ≤ i) (h : i < xs.length) : ∃ x, xs[i.toNat]? = some x ∧ atI xs i = some x := by
  have hn : i.toNat < xs.length := by omega
  refine ⟨xs[i.toNat], List.getElem?_eq_getElem hn, ?_⟩
  have : i = ((i.toNat : Nat) : Int) := by omega
  conv => lhs; rw [this]
  exact atI_nat (List.getElem?_eq_getElem hn)
theorem cmulw_small {i j : Int} (h1 : i.natAbs < 2 ^ 500000) (h2 : j.natAbs < 2 ^ 499999) : CMulW i j := wide_mul h1 h2 (by decide) (by decide) (by decide)
theorem cdivb_small {i j : Int} (h0 : j ≠ 0) (h : j.natAbs < 2 ^ 64) : CDivB i j := ⟨h0, Nat.lt_trans (PySem.Flt.log2_lt_of (by decide : 0 < 64) h) (by decide)⟩

section
variable {Q : D → Prop} {i j : Int} {d e : D} {ds es xs ys : List D} {b c : Bool} {s : Sl} {r : List Sl}
theorem addD_int : addD (.int i) (.int j) Q = Q (.int (i + j)) := rfl
theorem addD_str {x y : Str} : addD (.str x) (.str y) Q = (x.length + y.length ≤ sizeLine ∧ Q (.str (x ++ y))) := rfl
theorem addD_tup : addD (.tuple xs) (.tuple ys) Q = (xs.length + ys.length ≤ sizeLine ∧ Q (.tuple (xs ++ ys))) := rfl
theorem addD_lst : addD (.list xs) (.list ys) Q = (xs.length + ys.length ≤ sizeLine ∧ Q (.list (xs ++ ys))) := rfl
theorem subD_int : subD (.int i) (.int j) Q = Q (.int (i - j)) := rfl
theorem mulD_int : mulD (.int i) (.int j) Q = (CMulW i j ∧ Q (.int (i * j))) := rfl
theorem mulD_lst : mulD (.list ds) (.int i) Q = ((-(2 ^ 63) ≤ i ∧ i < 2 ^ 63 ∧ ds.length * i.toNat ≤ sizeLine) ∧ Q (.list (List.replicate i.toNat ds).flatten)) := rfl
theorem mulD_tup : mulD (.tuple ds) (.int i) Q = ((ds ≠ [] ∧ 1 ≤ i ∧ i ≤ 1000 ∧ ds.length ≤ 1000) ∧ Q (.tuple (List.replicate i.toNat ds).flatten)) := rfl
theorem fdivD_int : fdivD (.int i) (.int j) Q = (CDivB i j ∧ Q (.int (i.fdiv j))) := rfl
theorem modD_int : modD (.int i) (.int j) Q = (j ≠ 0 ∧ Q (.int (i.fmod j))) := rfl
theorem powD_int : powD (.int i) (.int j) Q = (CPow i j ∧ Q (.int (i ^ j.toNat))) := rfl
theorem shlD_int : shlD (.int i) (.int j) Q = (CPow i j ∧ Q (.int (i * 2 ^ j.toNat))) := rfl
theorem shrD_int : shrD (.int i) (.int j) Q = (0 ≤ j ∧ Q (.int (i / 2 ^ j.toNat))) := rfl
theorem andD_int : andD (.int i) (.int j) Q = Q (.int (Builtin.bitAnd i j)) := rfl
theorem ltD_int : ltD (.int i) (.int j) Q = Q (.bool (decide (i < j))) := rfl
theorem leD_int : leD (.int i) (.int j) Q = Q (.bool (decide (i ≤ j))) := rfl
theorem gtD_int : gtD (.int i) (.int j) Q = Q (.bool (decide (j < i))) := rfl
theorem geD_int : geD (.int i) (.int j) Q = Q (.bool (decide (j ≤ i))) := rfl
theorem eqD_ap : eqD d e Q = ((SeqAt.shaped d = true ∧ SeqAt.shaped e = true) ∧ Q (.bool (PyData.eqv d e))) := rfl
theorem neD_ap : neD d e Q = ((SeqAt.shaped d = true ∧ SeqAt.shaped e = true) ∧ Q (.bool (!PyData.eqv d e))) := rfl
theorem isD_ap : isD d .none Q = Q (.bool (isNon d)) := rfl
theorem isNotD_ap : isNotD d .none Q = Q (.bool (!isNon d)) := rfl
theorem isNon_none : isNon .none = true := rfl
theorem isNon_int : isNon (.int i) = false := rfl
theorem isNon_bool : isNon (.bool b) = false := rfl
theorem isNon_str {x : Str} : isNon (.str x) = false := rfl
theorem isNon_tup : isNon (.tuple ds) = false := rfl
theorem isNon_lst : isNon (.list ds) = false := rfl
theorem isInt_none : isIntD .none = false := rfl
theorem isInt_int : isIntD (.int i) = true := rfl
theorem isInt_bool : isIntD (.bool b) = true := rfl
theorem isInt_str {x : Str} : isIntD (.str x) = false := rfl
theorem isInt_tup : isIntD (.tuple ds) = false := rfl
theorem isInt_lst : isIntD (.list ds) = false := rfl
theorem isBool_none : isBoolD .none = false := rfl
theorem isBool_int : isBoolD (.int i) = false := rfl
theorem isBool_bool : isBoolD (.bool b) = true := rfl
theorem isBool_str {x : Str} : isBoolD (.str x) = false := rfl
theorem isBool_tup : isBoolD (.tuple ds) = false := rfl
theorem isBool_lst : isBoolD (.list ds) = false := rfl
theorem isStr_none : isStrD .none = false := rfl
theorem isStr_int : isStrD (.int i) = false := rfl
theorem isStr_bool : isStrD (.bool b) = false := rfl
theorem isStr_str {x : Str} : isStrD (.str x) = true := rfl
theorem isStr_tup : isStrD (.tuple ds) = false := rfl
theorem isStr_lst : isStrD (.list ds) = false := rfl
theorem isTup_none : isTupD .none = false := rfl
theorem isTup_int : isTupD (.int i) = false := rfl
theorem isTup_bool : isTupD (.bool b) = false := rfl
theorem isTup_str {x : Str} : isTupD (.str x) = false := rfl
theorem isTup_tup : isTupD (.tuple ds) = true := rfl
theorem isTup_lst : isTupD (.list ds) = false := rfl
theorem isLst_lst : isLstD (.list ds) = true := rfl
theorem Cnd_true {A B : Prop} : Cnd true A B = A := rfl
theorem Cnd_false {A B : Prop} : Cnd false A B = B := rfl
theorem Cnd_not {A B : Prop} : Cnd (!b) A B = Cnd b B A := by cases b <;> rfl
theorem Cnd_dec {A B p : Prop} [Decidable p] : Cnd (decide p) A B = ((p → A) ∧ (¬ p → B)) := by
  by_cases h : p
  · rw [decide_eq_true h]
    exact propext ⟨fun q => ⟨fun _ => q, fun z => absurd h z⟩, fun q => q.1 h⟩
  · rw [decide_eq_false h]
    exact propext ⟨fun q => ⟨fun z => absurd z h, fun _ => q⟩, fun q => q.2 h⟩
theorem asB_bool {K : Bool → Prop} : asB (.bool b) K = K b := rfl
theorem negD_int : negD (.int i) Q = Q (.int (-i)) := rfl
theorem notD_bool : notD (.bool b) Q = Q (.bool (!b)) := rfl
theorem onVal_val : onVal (.val d) Q = Q d := rfl
theorem onOwn_own {K : List D → Prop} : onOwn (.own ds) K = K ds := rfl
theorem onDic_dic {K : List (Key × D) → Prop} {kvs : List (Key × D)} : onDic (.dic kvs) K = K kvs := rfl
theorem onScr_scr {K : List Int → Prop} {ns : List Int} : onScr (.scr ns) K = K ns := rfl
theorem onWv_wv {K : Prop} : onWv .wv K = K := rfl
theorem onInt_int {K : Int → Prop} : onInt (.int i) K = K i := rfl
theorem onTup_tup {K : List D → Prop} : onTup (.tuple ds) K = K ds := rfl
theorem onLst_lst {K : List D → Prop} : onLst (.list ds) K = K ds := rfl
theorem onItems_lst {K : List D → Prop} : onItems (.list ds) K = K ds := rfl
theorem onItems_tup {K : List D → Prop} : onItems (.tuple ds) K = K ds := rfl
theorem frz1_own {K : List D → Prop} {L : Prop} : frz1 (.own ds) K L = K ds := rfl
theorem frz1_val {K : List D → Prop} {L : Prop} : frz1 (.val d) K L = L := rfl
theorem frz1_un {K : List D → Prop} {L : Prop} : frz1 .un K L = L := rfl
theorem ixD_lst : ixD (.list ds) e Q = ixL ds e Q := rfl
theorem ixD_tup : ixD (.tuple ds) e Q = ixL ds e Q := rfl
theorem ixL_int : ixL ds (.int i) Q = optD (atI ds i) Q := rfl
theorem optD_some : optD (some d) Q = Q d := rfl
theorem optI_some : optI (some i) Q = Q (.int i) := rfl
theorem absD_int : absD [.int i] Q = Q (.int (i.natAbs : Int)) := rfl
theorem intD_int : intD [.int i] Q = Q (.int i) := rfl
theorem intD_bool : intD [.bool b] Q = Q (.int (if b then 1 else 0)) := rfl
theorem lenD_lst : lenD [.list xs] Q = Q (.int xs.length) := rfl
theorem lenD_tup : lenD [.tuple xs] Q = Q (.int xs.length) := rfl
theorem lenD_str {z : Str} : lenD [.str z] Q = (z.length ≤ sizeLine ∧ Q (.int z.length)) := rfl
theorem tupleD_lst : tupleD [.list xs] Q = Q (.tuple xs) := rfl
theorem tupleD_tup : tupleD [.tuple xs] Q = Q (.tuple xs) := rfl
theorem listD_lst : listD [.list xs] Q = Q (.list xs) := rfl
theorem listD_tup : listD [.tuple xs] Q = Q (.list xs) := rfl
theorem min2D_int : min2D [.int i, .int j] Q = Q (.int (if j < i then j else i)) := rfl
theorem max2D_int : max2D [.int i, .int j] Q = Q (.int (if j > i then j else i)) := rfl
theorem sumD_ints {ns : List Int} : sumD [.list (ns.map .int)] Q = Q (.int ns.sum) := by unfold sumD; simp only [intsOf_map]
theorem allD_bls {ns : List Bool} : allD [.list (ns.map .bool)] Q = Q (.bool (ns.all id)) := by unfold allD; simp only [blsOf_map]
theorem anyD_bls {ns : List Bool} : anyD [.list (ns.map .bool)] Q = Q (.bool (ns.any id)) := by unfold anyD; simp only [blsOf_map]
theorem slD_lst {lo hi : Option Int} : slD (.list ds) lo hi Q = Q (.list (cutL ds lo hi)) := rfl
theorem slD_tup {lo hi : Option Int} : slD (.tuple ds) lo hi Q = Q (.tuple (cutL ds lo hi)) := rfl
theorem slD_str {lo hi : Option Int} {z : Str} : slD (.str z) lo hi Q = (z.length ≤ sizeLine ∧ Q (.str (cutS z lo hi))) := rfl
theorem gNl_nil {en : En} {K : En → Prop} : gNl [] en K = K en := rfl
theorem gCs_cons {g : DTG} {gs : DTGs} {en : En} {K : En → Prop} : gCs g gs (d :: ds) en K = g d en fun en' => gs ds en' K := rfl
theorem par2_two {m n : Nat} {en : En} {K : En → Prop} : par2 m n [d, e] en K = K ((en.set m (.val d)).set n (.val e)) := rfl
theorem seq1_lst {K : List D → Prop} : seq1 [.list xs] K = K xs := rfl
theorem seq1_tup {K : List D → Prop} : seq1 [.tuple xs] K = K xs := rfl
theorem rng1D_int {K : List D → Prop} : rng1D [.int j] K = ((-(2 ^ 62) ≤ j ∧ j < 2 ^ 62) ∧ K (rangeD 0 j.toNat)) := rfl
theorem rng2D_int {K : List D → Prop} : rng2D [.int i, .int j] K = ((-(2 ^ 62) ≤ i ∧ i < 2 ^ 62 ∧ -(2 ^ 62) ≤ j ∧ j < 2 ^ 62) ∧ K (rangeD i (j - i).toNat)) := rfl
theorem then_intro {s2 : DTS} {R : DEnds} {en : En} (h : s2 R en) : Then s2 R en := h
theorem gt_z : gt (s :: r) 0 = s := rfl
theorem gt_s {n : Nat} : gt (s :: r) (n + 1) = gt r n := rfl
theorem sp_next_int {K : D → Prop} : sp_next [.int i] K = (0 < i ∧ ∀ r : Int, 0 ≤ r → r < i → r < 997 → K (.int r)) := rfl
theorem set_z {α : Type} {x y : α} {r : List α} : (x :: r).set 0 y = y :: r := rfl
theorem set_s {α : Type} {x y : α} {r : List α} {n : Nat} : (x :: r).set (n + 1) y = x :: r.set n y := rfl
end

theorem while_byB {α : Type} {mt : DTT} {s1 : DTS} {R : DEnds} {en : En} (f : α → En) (P : α → Prop) (μ : α → Nat) (a0 : α) (he : en = f a0) (h0 : P a0)
    (turn : ∀ a, P a → mt (f a) fun b => Cnd b (s1 { nx := fun en' => ∃ a', en' = f a' ∧ P a' ∧ μ a' < μ a, ct := fun en' => ∃ a', en' = f a' ∧ P a' ∧ μ a' < μ a, bk := R.nx, rt := R.rt } (f a)) (R.nx (f a))) : dWhile mt s1 R en := by
  refine ⟨fun n en => ∃ a, en = f a ∧ P a ∧ μ a = n, ⟨_, a0, he, h0, rfl⟩, ?_⟩
  rintro n en ⟨a, rfl, h, rfl⟩
  have e : (fun en' => ∃ m, m < μ a ∧ ∃ a', en' = f a' ∧ P a' ∧ μ a' = m) = fun en' => ∃ a', en' = f a' ∧ P a' ∧ μ a' < μ a := by
    funext en'
    refine propext ⟨?_, ?_⟩
    · rintro ⟨m, hm, a', h1, h2, rfl⟩
      exact ⟨a', h1, h2, hm⟩
    · rintro ⟨a', h1, h2, h3⟩
      exact ⟨_, h3, a', h1, h2, rfl⟩
  rw [e]
  exact turn a h
theorem for_byB {α : Type} {g : DTG} {s1 : DTS} {ds : List D} {R : DEnds} {en : En} (f : α → En) (P : Nat → α → Prop) (a0 : α) (he : en = f a0) (h0 : P 0 a0)
    (turn : ∀ i d, ds[i]? = some d → ∀ a, P i a → g d (f a) fun en' => s1 { nx := fun en' => ∃ a', en' = f a' ∧ P (i + 1) a', ct := fun en' => ∃ a', en' = f a' ∧ P (i + 1) a', bk := R.nx, rt := R.rt } en')
    (fin : ∀ a, P ds.length a → R.nx (f a)) : ForW g s1 ds R en := by
  refine ⟨fun i en => ∃ a, en = f a ∧ P i a, ⟨a0, he, h0⟩, ?_, ?_⟩
  · rintro i d hd en ⟨a, rfl, h⟩
    exact turn i d hd a h
  · rintro en ⟨a, rfl, h⟩
    exact fin a h
/-- without break -/
theorem while_by {α : Type} {mt : DTT} {s1 : DTS} {R : DEnds} {en : En} (f : α → En) (P : α → Prop) (μ : α → Nat) (a0 : α) (he : en = f a0) (h0 : P a0)
    (turn : ∀ a, P a → ∀ bk : En → Prop, mt (f a) fun b => Cnd b (s1 { nx := fun en' => ∃ a', en' = f a' ∧ P a' ∧ μ a' < μ a, ct := fun en' => ∃ a', en' = f a' ∧ P a' ∧ μ a' < μ a, bk := bk, rt := R.rt } (f a)) (R.nx (f a))) : dWhile mt s1 R en :=
  while_byB f P μ a0 he h0 fun a h => turn a h R.nx
theorem for_by {α : Type} {g : DTG} {s1 : DTS} {ds : List D} {R : DEnds} {en : En} (f : α → En) (P : Nat → α → Prop) (a0 : α) (he : en = f a0) (h0 : P 0 a0)
    (turn : ∀ i d, ds[i]? = some d → ∀ a, P i a → ∀ bk : En → Prop, g d (f a) fun en' => s1 { nx := fun en' => ∃ a', en' = f a' ∧ P (i + 1) a', ct := fun en' => ∃ a', en' = f a' ∧ P (i + 1) a', bk := bk, rt := R.rt } en')
    (fin : ∀ a, P ds.length a → R.nx (f a)) : ForW g s1 ds R en := for_byB f P a0 he h0 (fun i d hd a h => turn i d hd a h R.nx) fin
/-- a comprehension whose test and item are a function of the item walked -/
theorem lc_fun {z : Bool} {g : DTG} {mt : DTT} {me : DTE} {vs : List Nat} {en : En} {Q : D → Prop} {ds : List D} (f : D → Option D)
    (hz : z = false → ds.length ≤ sizeLine) (h : ∀ d ∈ ds, ∀ P : Option D → Prop, P (f d) → g d (wipeE en vs) fun en' => mt en' fun b => Cnd b (me en' fun y => P (some y)) (P none)) (q : Q (.list (ds.filterMap f))) :
    LcW z g mt me vs ds en Q := by
  refine ⟨hz, fun i acc => acc = (ds.take i).filterMap f, rfl, fun i d acc e _ w => ?_, fun acc _ w => ?_⟩
  · subst w
    have hm : d ∈ ds := List.mem_of_getElem? e
    have et : (ds.take (i + 1)).filterMap f = (ds.take i).filterMap f ++ (f d).toList := by
      have e1 : List.filterMap f [d] = (f d).toList := by
        cases e : f d with
        | none => rw [List.filterMap_cons_none e]; rfl
        | some y => rw [List.filterMap_cons_some e]; rfl
      have e2 : ds.take (i + 1) = ds.take i ++ [d] := by rw [List.take_succ, e]; rfl
      rw [e2, List.filterMap_append, e1]
    have := h d hm (fun o => (ds.take i).filterMap f ++ o.toList = (ds.take (i + 1)).filterMap f) et.symm
    simp only [Option.toList, List.append_nil] at this
    exact this
  · have w : acc = (ds.take ds.length).filterMap f := w
    rw [List.take_length] at w
    subst w
    exact q
end Lay
namespace Lay
open PySem PySem.Spec L2
open PyProof.Rows hiding St

section
variable {X : Cx} {c : Ct} {e a b d : Expr} {es : List Expr} {m ma mb : DTE} {ml : DTA} {mt mu : DTT} {pos : Pos} {s1 : DTS}
theorem Reps.three {K : PySem.W.Frag} {F : Hp} {vs : List V} {d e f : D} (h : Reps K F vs [d, e, f]) : ∃ v u w, vs = [v, u, w] ∧ Rep K F v d ∧ Rep K F u e ∧ Rep K F w f := by
  cases h with
  | cons h1 h2 =>
    obtain ⟨u, w, rfl, h3, h4⟩ := h2.two
    exact ⟨_, _, _, rfl, h1, h3, h4⟩
/-- a, b, c = e1, e2, e3: three names at once -/
def par3 (i j l : Nat) (ds : List D) (en : En) (Q : En → Prop) : Prop := match ds with | [d, e, f] => Q (((en.set i (.val d)).set j (.val e)).set l (.val f)) | _ => False
def dPar3 (i j l : Nat) (ml : DTA) (R : DEnds) (en : En) : Prop := ml en fun ds => par3 i j l ds en R.nx
theorem ds_par3 {i j l : Nat} {x y z : Str} {px py pz pt : Pos} {kt k2 pt2} (hc : X.calm = true) (hN : X.N.Nodup) (hi : X.N[i]? = some x) (hj : X.N[j]? = some y) (hl : X.N[l]? = some z) (hij : i ≠ j) (hil : i ≠ l) (hjl : j ≠ l)
    (hx : X.env.scope.names.lookup x = some .local) (hy : X.env.scope.names.lookup y = some .local) (hz : X.env.scope.names.lookup z = some .local) (ha : DA X c [a, b, d] ml)
    (hw : swappedStores [.Tuple [.Name x px, .Name y py, .Name z pz] kt pt] (.Tuple [a, b, d] k2 pt2) X.env = pure (some [x, y, z]))
    (hs : swapsWithSole [.Tuple [.Name x px, .Name y py, .Name z pz] kt pt] (.Tuple [a, b, d] k2 pt2) pos.line X.env = pure false := by rfl) :
    DS X c (.Assign [.Tuple [.Name x px, .Name y py, .Name z pz] kt pt] (.Tuple [a, b, d] k2 pt2) pos) (dPar3 i j l ml) := by
  refine ⟨PS.imp (ps_par3 hc hN hi hj hl hij hil hjl hx hy hz ha.run hw hs) fun D σ H h => ?_⟩
  obtain ⟨F, en, R, r, h, k⟩ := h
  refine ⟨F, en, _, r, h, fun ds hd vs F' H' x rv hn => ?_⟩
  unfold par3 at hd
  split at hd
  · obtain ⟨v, u, w, rfl, r1, r2, r3⟩ := rv.three
    exact ⟨v, u, w, rfl, k.nx _ _ F' H' hd ((((r.grow x).set r1).set r2).set r3) x.ff⟩
  · exact hd.elim
theorem spar3 (i j l : Nat) {x y z : Str} {px py pz pt : Pos} {kt k2 pt2} (hN : X.N.Nodup) (ha : DA X c [a, b, d] ml) (hc : X.calm = true := by rfl) (hi : X.N[i]? = some x := by rfl) (hj : X.N[j]? = some y := by rfl) (hl : X.N[l]? = some z := by rfl) (hij : i ≠ j := by decide) (hil : i ≠ l := by decide) (hjl : j ≠ l := by decide)
    (hx : X.env.scope.names.lookup x = some .local := by rfl) (hy : X.env.scope.names.lookup y = some .local := by rfl) (hz : X.env.scope.names.lookup z = some .local := by rfl)
    (hw : swappedStores [.Tuple [.Name x px, .Name y py, .Name z pz] kt pt] (.Tuple [a, b, d] k2 pt2) X.env = pure (some [x, y, z]) := by rfl)
    (hs : swapsWithSole [.Tuple [.Name x px, .Name y py, .Name z pz] kt pt] (.Tuple [a, b, d] k2 pt2) pos.line X.env = pure false := by rfl) :
    DS X c (.Assign [.Tuple [.Name x px, .Name y py, .Name z pz] kt pt] (.Tuple [a, b, d] k2 pt2) pos) (dPar3 i j l ml) := ds_par3 hc hN hi hj hl hij hil hjl hx hy hz ha hw hs
theorem par3_three {i j l : Nat} {d e f : D} {en : En} {K : En → Prop} : par3 i j l [d, e, f] en K = K (((en.set i (.val d)).set j (.val e)).set l (.val f)) := rfl

def sortedD : DC := fun ds Q => match ds with | [.list xs] => (match intsOf xs with | some ns => ∀ ns' : List Int, ns'.Perm ns → ns'.Pairwise (· ≤ ·) → Q (.list (ns'.map .int)) | none => False) | _ => False
theorem sv_sorted {K : PySem.W.Frag} : ServesC K c (rSortedI K) sortedD := by
  intro F H vs ds R Q ex rv h k
  unfold sortedD at h
  split at h
  · split at h
    · rename_i ns q
      obtain ⟨v, rfl, r1⟩ := rv.one
      obtain ⟨p, ys, rfl, g1, g2, g3⟩ := r1.lstI
      rw [intsOf_eq q] at g2
      have e := g2.ints_inv
      subst e
      refine ⟨p, ns, rfl, SqL.of (ex.fh _ _ g1), fun ns' l hp hs hl => ?_⟩
      have g3' : (ns'.map PyData.int).length ≤ sizeLine := by
        rw [List.length_map, hp.length_eq]
        have := intsOf_eq q
        subst this
        rw [List.length_map] at g3
        exact g3
      obtain ⟨y1, y2⟩ := newLst ex hl (Reps.ints (F := F) (K := K) ns') g3'
      exact k _ (h ns' hp hs) _ _ _ y1 y2
    · exact h.elim
  · exact h.elim
theorem de_sorted {p : Pos} (hg : Gl X "sorted" := by rfl) (hm : X.mg "sorted" = none) (ha : DA X c [a] ml) (he : starEach [a] X.env = (false, eval a X.env) :: starEach [] X.env := by rfl) (hpl : (backTo pos (starEach [] X.env)).any (·.1) = false := by rfl) : DE X c (.Call (.Name "sorted" p) [a] [] pos) (dB sortedD ml) :=
  de_callB cr_sortedI sv_sorted hg hm boot_sorted ha (by decide) (by decide) he hpl
theorem sortedD_ints {ns : List Int} {Q : D → Prop} : sortedD [.list (ns.map .int)] Q = ∀ ns' : List Int, ns'.Perm ns → ns'.Pairwise (· ≤ ·) → Q (.list (ns'.map .int)) := by
  unfold sortedD
  simp only [intsOf_map]

theorem Reps.rev {K : PySem.W.Frag} {F : Hp} : ∀ {ds : List D} {vs : List V}, Reps K F vs ds → Reps K F vs.reverse ds.reverse
  | [], _, h => by cases h; exact .nil
  | d :: ds, _, h => by
    cases h with
    | cons h1 h2 =>
      rw [List.reverse_cons, List.reverse_cons]
      exact (Reps.rev h2).append (.cons h1 .nil)

theorem memD_int {n : Int} : ∀ ns : List Int, memD (.int n) (ns.map .int) = decide (n ∈ ns)
  | [] => rfl
  | k :: ns => by
    have q := memD_int (n := n) ns
    unfold memD at q ⊢
    rw [List.map_cons, List.any_cons, q]
    by_cases h : k = n
    · subst h; simp [eqv_int]
    · have h' : ¬ n = k := fun z => h z.symm
      simp [eqv_int, h, h']
theorem flat_ints : ∀ ns : List Int, (ns.map PyData.int).all flatD = true
  | [] => rfl
  | n :: ns => by rw [List.map_cons, List.all_cons, flat_ints ns]; rfl
theorem in_tup {neg : Bool} {n : Int} (ns : List Int) {Q : D → Prop} (h : Q (.bool (if neg then !decide (n ∈ ns) else decide (n ∈ ns)))) : inD neg (.int n) (.tuple (ns.map .int)) Q := by
  show (flatD (.int n) = true ∧ _) ∧ _
  refine ⟨⟨rfl, flat_ints ns⟩, ?_⟩
  rw [memD_int]; exact h
theorem in_lst {neg : Bool} {n : Int} (ns : List Int) {Q : D → Prop} (h : Q (.bool (if neg then !decide (n ∈ ns) else decide (n ∈ ns)))) : inD neg (.int n) (.list (ns.map .int)) Q := by
  show (flatD (.int n) = true ∧ _) ∧ _
  refine ⟨⟨rfl, flat_ints ns⟩, ?_⟩
  rw [memD_int]; exact h
end
end Lay
namespace Lay
open PySem PySem.Spec L2
open PyProof.Rows hiding St
theorem rangeD_ints (lo : Int) (n : Nat) : rangeD lo n = ((List.range n).map fun (i : Nat) => lo + (i : Int)).map .int := by
  unfold rangeD
  rw [List.map_map]
  rfl
section
variable {z : Bool} {g : DTG} {mt : DTT} {me : DTE} {vs : List Nat} {en : En} {Q : D → Prop}
/-- a comprehension that leaves all out -/
theorem lc_none {ds : List D} (hz : z = false → ds.length ≤ sizeLine) (h : ∀ d ∈ ds, ∀ P : Option D → Prop, P none → g d (wipeE en vs) fun en' => mt en' fun b => Cnd b (me en' fun y => P (some y)) (P none)) (q : Q (.list [])) : LcW z g mt me vs ds en Q := by
  refine lc_fun (fun _ => none) hz h ?_
  have e : List.filterMap (fun _ : D => (none : Option D)) ds = [] := by
    induction ds with
    | nil => rfl
    | cons d ds ih =>
      rw [List.filterMap_cons_none rfl]
      exact ih (fun h' => by have := hz h'; simp only [List.length_cons] at this; omega) fun d hd => h d (List.mem_cons_of_mem _ hd)
  rw [e]
  exact q
/-- over things that are told by a function -/
theorem lc_map {α β : Type} {xs : List α} (f : α → D) (k : β → D) (p : α → Option β) (hz : z = false → xs.length ≤ sizeLine)
    (h : ∀ x ∈ xs, ∀ P : Option D → Prop, P ((p x).map k) → g (f x) (wipeE en vs) fun en' => mt en' fun b => Cnd b (me en' fun y => P (some y)) (P none)) (q : Q (.list ((xs.filterMap p).map k))) : LcW z g mt me vs (xs.map f) en Q := by
  refine ⟨fun e => by rw [List.length_map]; exact hz e, fun i acc => acc = ((xs.take i).filterMap p).map k, rfl, fun i d acc e _ w => ?_, fun acc _ w => ?_⟩
  · subst w
    rw [List.getElem?_map] at e
    obtain ⟨x, ex, rfl⟩ := Option.map_eq_some_iff.mp e
    have hm : x ∈ xs := List.mem_of_getElem? ex
    have et : ((xs.take (i + 1)).filterMap p).map k = ((xs.take i).filterMap p).map k ++ ((p x).map k).toList := by
      have e1 : List.filterMap p [x] = (p x).toList := by
        cases e : p x with
        | none => rw [List.filterMap_cons_none e]; rfl
        | some y => rw [List.filterMap_cons_some e]; rfl
      have e2 : xs.take (i + 1) = xs.take i ++ [x] := by rw [List.take_succ, ex]; rfl
      rw [e2, List.filterMap_append, e1, List.map_append]
      cases p x <;> rfl
    have := h x hm (fun o => ((xs.take i).filterMap p).map k ++ o.toList = ((xs.take (i + 1)).filterMap p).map k) et.symm
    simp only [Option.toList, List.append_nil] at this
    exact this
  · subst w
    rw [List.length_map, List.take_length]
    exact q
/-- the ints that pass -/
theorem lc_ints {ns : List Int} (p : Int → Bool) (hz : z = false → ns.length ≤ sizeLine)
    (h : ∀ n ∈ ns, ∀ P : Option D → Prop, P (if p n then some (.int n) else none) → g (.int n) (wipeE en vs) fun en' => mt en' fun b => Cnd b (me en' fun y => P (some y)) (P none)) (q : Q (.list ((ns.filter p).map .int))) : LcW z g mt me vs (ns.map .int) en Q := by
  refine lc_map (p := fun n => if p n then some n else none) .int .int hz (fun n hn P hP => h n hn P ?_) ?_
  · cases e : p n <;> (rw [e] at hP; exact hP)
  · have e : ∀ l : List Int, l.filterMap (fun n => if p n then some n else none) = l.filter p := fun l => by
      induction l with
      | nil => rfl
      | cons n l ih =>
        cases e : p n
        · rw [List.filterMap_cons_none (by simp [e]), List.filter_cons_of_neg (by simp [e]), ih]
        · rw [List.filterMap_cons_some (by simp [e] : _ = some n), List.filter_cons_of_pos e, ih]
    rw [e]
    exact q
end
theorem one_nat : ((1 : Nat) : Int) = 1 := rfl
theorem two_nat : ((2 : Nat) : Int) = 2 := rfl
theorem three_nat : ((3 : Nat) : Int) = 3 := rfl
theorem atI_ofNat {α : Type} {xs : List α} {i : Nat} (h : i < xs.length) : atI xs (i : Int) = some xs[i] := atI_nat (List.getElem?_eq_getElem h)
theorem ix_map {α : Type} {xs : List α} {f : α → D} {i : Nat} {Q : D → Prop} (h : i < xs.length) (q : Q (f xs[i])) : optD (atI (xs.map f) (i : Int)) Q := by
  rw [atI_nat (v := f xs[i]) (by rw [List.getElem?_map, List.getElem?_eq_getElem h]; rfl)]
  exact q
theorem ix_mapI {α : Type} {xs : List α} {f : α → D} {i : Int} {Q : D → Prop} (h0 : 0 ≤ i) (h : i < xs.length) (q : Q (f (xs[i.toNat]'(by omega)))) : optD (atI (xs.map f) i) Q := by
  have e : i = ((i.toNat : Nat) : Int) := by omega
  rw [e]
  exact ix_map (by omega) q
/-- [] or not, of ints -/
theorem eqv_ints_nil : ∀ ns : List Int, PyData.eqv (.list (ns.map .int)) (.list []) = ns.isEmpty
  | [] => rfl
  | n :: ns => rfl
end Lay
namespace Lay
open PySem PySem.Spec L2 HT
open PyProof.Rows hiding St
section
variable {prog : Program} {w : World} {A : Around} {E : Value → Shared → Prop} {s : Shared}
theorem adjust_rev (n : Nat) : Builtin.Slice.sliceAdjust none none (-1) (n : Int) = ((n : Int) - 1, -1) := rfl
theorem places_rev (n : Nat) : Builtin.Slice.slicePlaces ((n : Int) - 1) (-1) (-1) = n := by
  unfold Builtin.Slice.slicePlaces
  have h1 : ¬ ((-1 : Int) > 0) := by omega
  simp only [h1, if_false]
  rw [show (-(-1) : Int) = 1 from rfl, Int.ediv_one]
  split <;> omega
theorem pick_rev (xs : Array Value) : ((List.range xs.size).filterMap fun (m : Nat) => xs[(((xs.size : Int) - 1) + (m : Int) * (-1)).toNat]?).toArray = xs.toList.reverse.toArray := by
  congr 1
  have key : ∀ k : Nat, k ≤ xs.size → ((List.range k).filterMap fun (m : Nat) => xs[(((xs.size : Int) - 1) + (m : Int) * (-1)).toNat]?) = xs.toList.reverse.take k := by
    intro k
    induction k with
    | zero => intro _; rfl
    | succ k ih =>
      intro hk
      rw [List.range_succ, List.filterMap_append, ih (by omega), List.take_succ]
      congr 1
      have e : (((xs.size : Int) - 1) + (k : Int) * (-1)).toNat = xs.size - 1 - k := by omega
      have e2 : xs.toList.reverse[k]? = xs[xs.size - 1 - k]? := by
        rw [List.getElem?_reverse (by simp; omega)]
        simp
      rw [e2]
      simp only [List.filterMap_cons, List.filterMap_nil, e]
      cases xs[xs.size - 1 - k]? <;> rfl
  rw [key xs.size (Nat.le_refl _)]
  exact List.take_of_length_le (by simp)
theorem sliceApplied_rev {sl : Addr} {vl vu vs : Value} {n : Nat} {Q : Int × Int × Nat → Shared → Prop} (hs : s.heap.IsSliceOf sl vl vu vs) (pl : IsPart vl none) (pu : IsPart vu none) (ps : IsPart vs (some (-1)))
    (h : Q ((n : Int) - 1, -1, n) s) : wpAny (model prog w) A (Builtin.Slice.sliceApplied (.ref sl) (pure (n : Int))) Q E s := by
  obtain ⟨os, hos, hcs, hds⟩ := id hs
  unfold Builtin.Slice.sliceApplied Builtin.Slice.sliceFields
  refine wpAny_bind (wpAny_bind (wpAny_field hos hds (x := vl) rfl (wpAny_bind (wpAny_field hos hds (x := vu) rfl (wpAny_bind (wpAny_field hos hds (x := vs) rfl (wpAny_pure ?_)))))))
  refine wpAny_bind (slicePart_ ps ?_)
  show wpAny _ _ (if ((-1 : Int) == 0) = true then _ else _) _ _ s
  rw [if_neg (by decide)]
  refine wpAny_bind (slicePart_ pl (wpAny_bind (slicePart_ pu (wpAny_bind (wpAny_pure ?_)))))
  show wpAny _ _ (match Builtin.Slice.sliceAdjust none none (-1) (n : Int) with | (lo, hi) => pure (lo, (-1 : Int), Builtin.Slice.slicePlaces lo hi (-1))) _ _ s
  rw [adjust_rev]
  show wpAny _ _ (pure ((n : Int) - 1, (-1 : Int), Builtin.Slice.slicePlaces ((n : Int) - 1) (-1) (-1))) _ _ s
  rw [places_rev]
  exact wpAny_pure h
theorem getItem_tuple_rev {t sl : Addr} {items : Array Value} {vl vu vs : Value} {Q : Value → Shared → Prop} (ht : IsTup s.heap t items) (hs : s.heap.IsSliceOf sl vl vu vs) (pl : IsPart vl none) (pu : IsPart vu none) (ps : IsPart vs (some (-1)))
    (h : Q (.ref s.heap.objs.size) { s with heap := s.heap.push { cls := .type "tuple", data := .seq items.toList.reverse.toArray } })
    (hsz : items.size ≤ sizeLine) : wpAny (model prog w) A (getItem (.ref t) (.ref sl)) Q E s := by
  have htake : sizeOk (.seq items.toList.reverse.toArray) := by
    show items.toList.reverse.toArray.size ≤ sizeLine
    rw [List.size_toArray, List.length_reverse, Array.length_toList]
    exact hsz
  obtain ⟨os, hos, hcs, hds⟩ := id hs
  have hTs : s.TypeIs (.ref sl) "slice" := ⟨os, hos, hcs⟩
  unfold getItem
  try with_reducible refine wpAny_holding ?_
  first | refine wpAny_bind (wpAny_pure ?_) | skip
  refine wpAny_bind (wpAny_sequenceKey ht.typeIs (by decide) ?_)
  refine wpAny_bind (wpAny_callSpecial?_slot (name := Str.ofString "__getitem__") ht.typeIs PyProof.Rows.slot_tuple_getitem
    (wpAny_call_entry PyProof.Rows.slot_tuple_getitem ht.typeIs entry_tuple_getitem ?_ (args_tuple_getitem _ _)))
  show wpAny _ _ (Builtin.Tuple.tupleItemsOf (.ref t) >>= _) _ _ s
  refine wpAny_bind (tupleItemsOf_ ht ?_)
  refine wpAny_bind (wpAny_typeOf hTs ?_)
  rw [if_pos (by decide)]
  refine wpAny_bind (sliceApplied_rev hs pl pu ps ?_)
  have hno : ¬ ((((items.size : Int) - 1) == 0 && (-1 : Int) == 1 && items.size == items.size) = true) := by
    intro q
    rw [Bool.and_eq_true, Bool.and_eq_true] at q
    exact absurd q.1.2 (by decide)
  show wpAny _ _ (if (((items.size : Int) - 1) == 0 && (-1 : Int) == 1 && items.size == items.size) = true then _ else _) _ _ s
  rw [if_neg hno, pick_rev]
  first
    | exact wpAny_bind (m := Builtin.Tuple.tupleExact _) (wpAny_newObj_type (wpAny_pure ⟨_, rfl, wpAny_pure h⟩) htake)
    | exact wpAny_bind (m := Builtin.Tuple.tupleExact _) (wpAny_newObj_type (wpAny_bind (wpAny_pure (wpAny_pure ⟨_, rfl, wpAny_pure h⟩))) htake)
    | exact wpAny_bind (wpAny_bind (m := Builtin.Tuple.tupleExact _) (wpAny_newObj_type (wpAny_pure (wpAny_pure ⟨_, rfl, wpAny_pure h⟩)) htake))
    | exact wpAny_bind (wpAny_bind (m := Builtin.Tuple.tupleExact _) (wpAny_newObj_type (wpAny_pure ⟨_, rfl, wpAny_pure h⟩) htake))
end
/-- xs[::-1], a list or a tuple -/
def tRev2 (K : PySem.W.Frag) (te : TE) : TE := fun σ H Q => te σ H fun x H1 => ∃ a xs, x = .ref a ∧ ((SqL K H1 a xs ∧ ∀ p, H1 p = none → Q (.ref p) (upd H1 p (.lst xs.reverse))) ∨ (SqT K H1 a xs ∧ ∀ p, H1 p = none → Q (.ref p) (upd H1 p (.tup xs.reverse))))
section
variable {X : Cx}
theorem pe_rev2 {e : Expr} {te : TE} {k : Nat} {p1 p2 p3 pos : Pos} (he : PE X e te) : PE X (.Subscript e (.Slice none none (some (.UnaryOp .USub (.Constant (.int 1) k p1) p2)) p3) pos) (tRev2 X.K te) := by
  refine ⟨fun pins s σ H Q I h => ?_⟩
  refine Subscript_ (thn (he.run pins s σ H _ I h) fun v s1 ⟨x, H1, I1, r1, q1⟩ => ?_)
  obtain ⟨a, xs, ex, q⟩ := q1
  subst ex
  cases r1
  have hst : PO X (some (.UnaryOp .USub (.Constant (.int 1) k p1) p2)) (tPart (tUn (rU fun i => .int (-i)) (tC (.int 1)))) := po_some (pe_un un_neg pe_int)
  refine wpAny_Slice (thn (po_none.run pins s1 σ H1 (fun o H2 => o = none ∧ H2 = H1) I1 ⟨rfl, rfl⟩) fun vl s2 ⟨l, H2, I2, pl, el, e2⟩ => ?_)
  subst el e2
  refine thn (po_none.run pins s2 σ H2 (fun o H3 => o = none ∧ H3 = H2) I2 ⟨rfl, rfl⟩) fun vu s3 ⟨u, H3, I3, pu, eu, e3⟩ => ?_
  subst eu e3
  refine thn (hst.run pins s3 σ H3 (fun o H4 => o = some (-1) ∧ H4 = H3) I3 ⟨1, rfl, -1, rfl, rfl, rfl⟩) fun vs s4 ⟨o, H4, I4, ps, eo, e4⟩ => ?_
  subst eo e4
  have I5 : Inv X pins σ H4 { s4 with heap := s4.heap.push { cls := .type "slice", data := .fields #[vl, vu, vs] } } := I4.kept (t' := s4.toks) fun b ob q => Heap.get?_push_of_some _ q
  show wpAny (model X.prog X.w) X.A (subscriptTail e (.Slice none none (some (.UnaryOp .USub (.Constant (.int 1) k p1) p2)) p3) (.ref a) (.ref s4.heap.objs.size)) (EP X pins σ Q) X.xe { s4 with heap := s4.heap.push { cls := .type "slice", data := .fields #[vl, vu, vs] } }
  rcases q with ⟨hx, q⟩ | ⟨hx, q⟩
  · obtain ⟨its, r, ht, hz⟩ := I5.list hx
    have hlen := r.length
    refine tail_any (ops := [.ref a, .ref s4.heap.objs.size]) ht.isList.typeIs (PySem.slot_list_getitem.lookup) ?_ (by with_unfolding_all rfl)
    refine wpAny_getItem_list_slice ht.isList (Heap.IsSliceOf.new _ vl vu vs) pl pu ps (by decide) ?_ (by rw [List.size_toArray]; omega)
    rw [PySem.W.krv_pick]
    refine ⟨.ref _, _, I5.laid (t' := s4.toks) (o := .lst xs.reverse) (fun b ob q => Heap.get?_push_of_some _ q) (Nat.le_refl _) ?_, rfl, q _ (I5.hok.fresh (Nat.le_refl _))⟩
    exact ⟨by rw [List.length_reverse]; exact hz, _, 0, r.reverse, Heap.get?_push_size _ rfl⟩
  · obtain ⟨its, r, ht, hz⟩ := I5.tuple hx
    have hlen := r.length
    refine tail_any (ops := [.ref a, .ref s4.heap.objs.size]) ht.typeIs (PyProof.Rows.slot_tuple_getitem.lookup) ?_ (by with_unfolding_all rfl)
    refine getItem_tuple_rev ht (Heap.IsSliceOf.new _ vl vu vs) pl pu ps ?_ (by rw [List.size_toArray]; omega)
    refine ⟨.ref _, _, I5.laid (t' := s4.toks) (o := .tup xs.reverse) (fun b ob q => Heap.get?_push_of_some _ q) (Nat.le_refl _) ?_, rfl, q _ (I5.hok.fresh (Nat.le_refl _))⟩
    exact ⟨by rw [List.length_reverse]; exact hz, _, r.reverse, IsTup.new _ _⟩
end
def revD (d : D) (Q : D → Prop) : Prop := match d with | .list ds => Q (.list ds.reverse) | .tuple ds => Q (.tuple ds.reverse) | _ => False
def dRev (m : DTE) (en : En) (Q : D → Prop) : Prop := m en fun d => revD d Q
theorem revD_lst {ds : List D} {Q : D → Prop} : revD (.list ds) Q = Q (.list ds.reverse) := rfl
theorem revD_tup {ds : List D} {Q : D → Prop} : revD (.tuple ds) Q = Q (.tuple ds.reverse) := rfl
theorem de_rev {X : Cx} {c : Ct} {e : Expr} {m : DTE} {pos : Pos} {k : Nat} {p1 p2 p3 : Pos} (he : DE X c e m) : DE X c (.Subscript e (.Slice none none (some (.UnaryOp .USub (.Constant (.int 1) k p1) p2)) p3) pos) (dRev m) := by
  refine ⟨PE.imp (pe_rev2 he.run) fun σ H Q h => ?_⟩
  obtain ⟨F, en, R, r, h, k⟩ := h
  refine ⟨F, en, _, r, h, fun d hd v F1 H1 x1 rv => ?_⟩
  unfold revD at hd
  split at hd
  · obtain ⟨p, ys, rfl, g1, g2, g3⟩ := rv.lstI
    refine ⟨p, ys, rfl, .inl ⟨SqL.of (x1.fh _ _ g1), fun t ht => ?_⟩⟩
    obtain ⟨y1, y2⟩ := newLst (c := c) x1.self ht g2.rev (by rw [List.length_reverse]; exact g3)
    exact k _ hd _ _ _ (x1.trans y1) y2
  · obtain ⟨p, ys, rfl, g1, g2, g3⟩ := rv.tupI
    refine ⟨p, ys, rfl, .inr ⟨sqT_mono x1.fh g1, fun t ht => ?_⟩⟩
    obtain ⟨y1, y2⟩ := newTup (c := c) x1.self ht g2.rev (by rw [List.length_reverse]; exact g3)
    exact k _ hd _ _ _ (x1.trans y1) y2
  · exact hd.elim
end Lay
namespace Lay
open PySem PySem.Spec L2
open PyProof.Rows hiding St
section
variable {X : Cx} {c : Ct} {mt : DTT} {pos : Pos}
theorem ssetLc (i : Nat) {y : Str} {py : Pos} {elt tg iter : Expr} {ifs : List Expr} {scope : Scope} {own : List (Str × Nat)} {sl : List Nat} {z : Bool} {mi : DTA} {g : DTG} {me : DTE} {spos : Pos} (hN : X.N.Nodup)
    (hi : DI X c tg iter z mi) (ok : BlkOk X.N X.env.scope scope own)
    (hg : ∀ (s : Shared) (H : Hp) (C : Addr) (cl : List (Str × Addr)) (fp : List Addr), DG (X.blk s H scope (compEnvC scope cl C X.env) fp) c tg sl g) (ht : ∀ (s : Shared) (H : Hp) (C : Addr) (cl : List (Str × Addr)) (fp : List Addr), DTs (X.blk s H scope (compEnvC scope cl C X.env) fp) c ifs mt)
    (he : ∀ (s : Shared) (H : Hp) (C : Addr) (cl : List (Str × Addr)) (fp : List Addr), DE (X.blk s H scope (compEnvC scope cl C X.env) fp) c elt me)
    (hc : X.calm = true := by rfl) (hy : X.N[i]? = some y := by rfl) (hyl : X.env.scope.names.lookup y = some .local := by rfl)
    (hsw : swapsWith (.ListComp elt [⟨tg, iter, ifs, 0⟩] scope pos) (some (.Name y py)) spos.line X.env = pure true := by rfl)
    (hsl : ∀ i ∈ sl, i ∈ own.map (·.2) := by decide) (hs : ∀ x, foldedSetIterable iter X.env x = pure x := by intro _; rfl) :
    DS X c (.Assign [.Name y py] (.ListComp elt [⟨tg, iter, ifs, 0⟩] scope pos) spos) (dAsg (dLc z mi g mt me (own.map (·.2))) (gNm i)) := ds_setLc hc hN hy hyl hsw hi ok hg ht he hsl hs
end
end Lay
namespace Lay
open PySem PySem.Spec L2 RZ
open PyProof.Rows hiding St
def zipD (xs ys : List D) : List D := List.zipWith (fun d e => .tuple [d, e]) xs ys
def zip2D (ds : List D) (Q : List D → Prop) : Prop := match ds with
  | [.list xs, .list ys] => Q (zipD xs ys)
  | [.tuple xs, .tuple ys] => Q (zipD xs ys)
  | _ => False
def dZip2 (ml : DTA) (en : En) (Q : List D → Prop) : Prop := ml en fun ds => zip2D ds Q
theorem zipD_get {xs ys : List D} {i : Nat} {d : D} (h : (zipD xs ys)[i]? = some d) : ∃ e f, d = .tuple [e, f] ∧ xs[i]? = some e ∧ ys[i]? = some f := by
  unfold zipD at h
  rw [List.getElem?_zipWith] at h
  cases e1 : xs[i]? with
  | none => rw [e1] at h; cases h
  | some e =>
    cases e2 : ys[i]? with
    | none => rw [e1, e2] at h; cases h
    | some f =>
      rw [e1, e2] at h
      cases h
      exact ⟨e, f, rfl, rfl, rfl⟩
section
variable {K : PySem.W.Frag} {wo : Option (Addr × Addr)} {F : Hp} {p q : Addr} {xs ys : List V} {ds es : List D}
theorem dwalk_zipL (hp : F p = some (.lst xs)) (hq : F q = some (.lst ys)) (r : Reps K F xs ds) (s : Reps K F ys es) : DWalk K wo (Itz K p q) F (zipD ds es) where
  go := fun i d F' H hF x e => by
    obtain ⟨d1, d2, rfl, e1, e2⟩ := zipD_get e
    obtain ⟨v, h1, _⟩ := r.get e1
    obtain ⟨u, h2, _⟩ := s.get e2
    exact ⟨xs, ys, v, u, SqL.of (x.fh _ _ (hF _ _ hp)), SqL.of (x.fh _ _ (hF _ _ hq)), h1, h2⟩
  yld := fun i d F' H x H' hF ex e y => by
    obtain ⟨d1, d2, rfl, e1, e2⟩ := zipD_get e
    obtain ⟨T, a, b, rfl, hT, rfl, g1, g2⟩ := y
    obtain ⟨v, h1, r1⟩ := r.get e1
    obtain ⟨u, h2, r2⟩ := s.get e2
    have q1 := g1 xs (SqL.of (ex.fh _ _ (hF _ _ hp)))
    have q2 := g2 ys (SqL.of (ex.fh _ _ (hF _ _ hq)))
    rw [h1] at q1
    rw [h2] at q2
    cases q1
    cases q2
    obtain ⟨y1, y2⟩ := newTup (c := ⟨wo, F', H⟩) ex hT (.cons (Rep.mono hF _ _ r1) (.cons (Rep.mono hF _ _ r2) .nil)) (by show 2 ≤ sizeLine; decide)
    exact ⟨_, y1, y2⟩
  stop := fun F' H hF x => ⟨xs, ys, SqL.of (x.fh _ _ (hF _ _ hp)), SqL.of (x.fh _ _ (hF _ _ hq)), by
    unfold zipD
    rw [List.length_zipWith, r.len, s.len]
    omega⟩
theorem dwalk_zipT (hp : SqT K F p xs) (hq : SqT K F q ys) (r : Reps K F xs ds) (s : Reps K F ys es) : DWalk K wo (ItzT K p q) F (zipD ds es) where
  go := fun i d F' H hF x e => by
    obtain ⟨d1, d2, rfl, e1, e2⟩ := zipD_get e
    obtain ⟨v, h1, _⟩ := r.get e1
    obtain ⟨u, h2, _⟩ := s.get e2
    exact ⟨xs, ys, v, u, sqT_mono x.fh (sqT_mono hF hp), sqT_mono x.fh (sqT_mono hF hq), h1, h2⟩
  yld := fun i d F' H x H' hF ex e y => by
    obtain ⟨d1, d2, rfl, e1, e2⟩ := zipD_get e
    obtain ⟨T, a, b, rfl, hT, rfl, g1, g2⟩ := y
    obtain ⟨v, h1, r1⟩ := r.get e1
    obtain ⟨u, h2, r2⟩ := s.get e2
    have q1 := g1 xs (sqT_mono ex.fh (sqT_mono hF hp))
    have q2 := g2 ys (sqT_mono ex.fh (sqT_mono hF hq))
    rw [h1] at q1
    rw [h2] at q2
    cases q1
    cases q2
    obtain ⟨y1, y2⟩ := newTup (c := ⟨wo, F', H⟩) ex hT (.cons (Rep.mono hF _ _ r1) (.cons (Rep.mono hF _ _ r2) .nil)) (by show 2 ≤ sizeLine; decide)
    exact ⟨_, y1, y2⟩
  stop := fun F' H hF x => ⟨xs, ys, sqT_mono x.fh (sqT_mono hF hp), sqT_mono x.fh (sqT_mono hF hq), by
    unfold zipD
    rw [List.length_zipWith, r.len, s.len]
    omega⟩
end
theorem di_zip2 {X : Cx} {c : Ct} {a b : Expr} {ml : DTA} {p pos tpos : Pos} {elts : List Expr} {kk : Nat} (hm : X.mg "zip" = none) (ha : DA X c [a, b] ml) (hg : Gl X "zip" := by rfl) (hs : starEach [a, b] X.env = (false, eval a X.env) :: starEach [b] X.env := by rfl) (hpl : (backTo pos (starEach [b] X.env)).any (·.1) = false := by rfl) :
    DI X c (.Tuple elts kk tpos) (.Call (.Name "zip" p) [a, b] [] pos) true (dZip2 ml) := by
  refine ⟨PI.imp (pi_zipA hg hm ha.run hs hpl) fun σ H Q h => ?_⟩
  obtain ⟨F, en, R, r, h, k⟩ := h
  refine ⟨F, en, _, r, h, fun ds hd vs F' H' x rv _ => ?_⟩
  unfold zip2D at hd
  split at hd
  · obtain ⟨v, u, rfl, r1, r2⟩ := rv.two
    obtain ⟨p1, xs, rfl, g1, g2, g3⟩ := r1.lstI
    obtain ⟨p2, ys, rfl, k1, k2, k3⟩ := r2.lstI
    exact ⟨p1, p2, xs, ys, rfl, .inl ⟨SqL.of (x.fh _ _ g1), SqL.of (x.fh _ _ k1), k _ hd _ F' H' x (dwalk_zipL g1 k1 g2 k2) fun _ => by unfold zipD; rw [List.length_zipWith]; omega⟩⟩
  · obtain ⟨v, u, rfl, r1, r2⟩ := rv.two
    obtain ⟨p1, xs, rfl, g1, g2, g3⟩ := r1.tupI
    obtain ⟨p2, ys, rfl, k1, k2, k3⟩ := r2.tupI
    exact ⟨p1, p2, xs, ys, rfl, .inr ⟨sqT_mono x.fh g1, sqT_mono x.fh k1, k _ hd _ F' H' x (dwalk_zipT g1 k1 g2 k2) fun _ => by unfold zipD; rw [List.length_zipWith]; omega⟩⟩
  · exact hd.elim
theorem zip2D_lst {xs ys : List D} {Q : List D → Prop} : zip2D [.list xs, .list ys] Q = Q (zipD xs ys) := rfl
theorem zip2D_tup {xs ys : List D} {Q : List D → Prop} : zip2D [.tuple xs, .tuple ys] Q = Q (zipD xs ys) := rfl
end Lay
namespace Lay
open PySem PySem.Spec L2
open PyProof.Rows hiding St
theorem Reps.setD {K : PySem.W.Frag} {F : Hp} {v : V} {d : D} (hd : Rep K F v d) : ∀ {ds : List D} {vs : List V} {j : Nat}, Reps K F vs ds → Reps K F (vs.set j v) (ds.set j d)
  | [], _, j, h => by cases h; exact .nil
  | e :: ds, _, 0, h => by
    cases h with
    | cons h1 h2 => exact .cons hd h2
  | e :: ds, _, j + 1, h => by
    cases h with
    | cons h1 h2 => exact .cons h1 (Reps.setD hd h2)
/-- x[e] = e2, x a list of the def's own -/
def dPut (i : Nat) (m mv : DTE) (R : DEnds) (en : En) : Prop := mv en fun d => onOwn (gt en i) fun xs => m en fun k => onInt k fun k => ∃ j, ixN xs.length k = some j ∧ R.nx (en.set i (.own (xs.set j d)))
section
variable {X : Cx} {c : Ct} {e a b : Expr} {m mv ma mb : DTE} {pos : Pos}
theorem sput (i : Nat) {x : Str} {px p2 : Pos} (hi : DE X c b m) (hv : DE X c e mv) (hN : X.N[i]? = some x := by rfl) (hvis : Vis X.env.scope x := by first | exact Or.inl rfl | exact Or.inr (Or.inl rfl) | exact Or.inr (Or.inr rfl)) (hd : (x == ("__debug__" : Str)) = false := by decide) (hcd : (x == ("__classdict__" : Str)) = false := by decide)
    (ha : ∀ v, assign (.Subscript (.Name x px) b p2) X.env v = (do
      let ov ← holding [v] (eval (.Name x px) X.env)
      let iv ← holding [v, ov] (eval b X.env)
      standAt p2
      holding [v, ov, iv] (setItem ov iv v)
      release [v, ov, iv] []) := by intro _; rfl)
    (hs : swapsWithSole [.Subscript (.Name x px) b p2] e pos.line X.env = pure false := by rfl) (hw : swappedStores [.Subscript (.Name x px) b p2] e X.env = pure none := by rfl)
    (h1 : (assignEach [.Subscript (.Name x px) b p2] X.env).map (·.2) = [assign (.Subscript (.Name x px) b p2) X.env] := by rfl) :
    DS X c (.Assign [.Subscript (.Name x px) b p2] e pos) (dPut i m mv) := by
  refine ⟨PS.imp (ps_asg hv.run (pg_sub (pe_var hN hvis hd hcd) hi.run set_list ha) hs hw h1) fun D σ H h => ?_⟩
  obtain ⟨F, en, R, r, h, k⟩ := h
  refine ⟨F, en, _, r, h, fun d hd v F1 H1 x1 rv => ?_⟩
  unfold onOwn at hd
  split at hd
  · rename_i xs hg
    have hen := gt_get hg (fun z => nomatch z)
    have g := r.grow x1
    obtain ⟨ov, e1, p, vs, e2, e3, e4, e5⟩ := g.sl i _ hen
    subst e2
    refine ⟨_, e1, F1, en, _, g, hd, fun kd hk kv F2 H2 x2 rk => ?_⟩
    cases kd with
    | int n =>
      cases rk
      obtain ⟨j, hj, hk⟩ := hk
      have g2 := g.grow x2
      have ha : ownAt σ en i p := ⟨e1, _, hen, rfl⟩
      have e3' := x2.hh _ _ e3 (g.notW ha)
      have e4' := Reps.mono x2.ff _ _ e4
      have rv' := Rep.mono x2.ff _ _ rv
      refine ⟨p, vs, n, j, rfl, rfl, e3', by rw [e4.len]; exact hj, ?_⟩
      refine k.nx _ _ F2 _ hk (g2.turn ha ⟨p, _, rfl, upd_same, Reps.setD rv' e4', ?_⟩) (fun b o q => x2.ff _ _ (x1.ff _ _ q))
      rw [List.length_set]
      exact e5
    | _ => exact False.elim hk
  · exact hd.elim
def isBD : D2 := fun d e Q => match d, e with | .bool a, .bool b => Q (.bool (decide (a = b))) | _, _ => False
def isNotBD : D2 := fun d e Q => match d, e with | .bool a, .bool b => Q (.bool (!decide (a = b))) | _, _ => False
theorem sv_isB {K : PySem.W.Frag} : Serves K c rIsB isBD := fun F H x y d e R Q ex rx ry h k => by
  unfold isBD at h
  split at h
  · cases rx; cases ry
    exact ⟨_, _, rfl, rfl, k _ h _ F H ex (.bl _)⟩
  · exact h.elim
theorem sv_isNotB {K : PySem.W.Frag} : Serves K c rNotB isNotBD := fun F H x y d e R Q ex rx ry h k => by
  unfold isNotBD at h
  split at h
  · cases rx; cases ry
    exact ⟨_, _, rfl, rfl, k _ h _ F H ex (.bl _)⟩
  · exact h.elim
theorem de_isB (ha : DE X c a ma) (hb : DE X c b mb) : DE X c (.Compare a [.Is] [b] pos) (dOp isBD ma mb) := de_cmp op_isBl sv_isB ha hb (nomark _)
theorem dt_isB (ha : DE X c a ma) (hb : DE X c b mb) : DT X c (.Compare a [.Is] [b] pos) (dT (dOp isBD ma mb)) := dt_cmp op_isBl sv_isB ha hb (nomark _)
theorem de_isNotB (ha : DE X c a ma) (hb : DE X c b mb) : DE X c (.Compare a [.IsNot] [b] pos) (dOp isNotBD ma mb) := de_cmp op_notBl sv_isNotB ha hb (nomark _)
theorem dt_isNotB (ha : DE X c a ma) (hb : DE X c b mb) : DT X c (.Compare a [.IsNot] [b] pos) (dT (dOp isNotBD ma mb)) := dt_cmp op_notBl sv_isNotB ha hb (nomark _)
theorem isBD_bl {a b : Bool} {Q : D → Prop} : isBD (.bool a) (.bool b) Q = Q (.bool (decide (a = b))) := rfl
theorem isNotBD_bl {a b : Bool} {Q : D → Prop} : isNotBD (.bool a) (.bool b) Q = Q (.bool (!decide (a = b))) := rfl
end
end Lay
namespace Lay
open PySem PySem.Spec L2
open PyProof.Rows hiding St
def putPar (i j : Nat) (m : DTE) (t : D) (en : En) (Q : En → Prop) : Prop := match t with
  | .tuple [d, e] => onOwn (gt en i) fun xs => m en fun k => onInt k fun k => ∃ q, ixN xs.length k = some q ∧ Q ((en.set i (.own (xs.set q d))).set j (.val e))
  | _ => False
def dPutPar (i j : Nat) (m mv : DTE) (R : DEnds) (en : En) : Prop := mv en fun t => putPar i j m t en R.nx
theorem putPar_two {i j : Nat} {m : DTE} {d e : D} {en : En} {Q : En → Prop} : putPar i j m (.tuple [d, e]) en Q = onOwn (gt en i) fun xs => m en fun k => onInt k fun k => ∃ q, ixN xs.length k = some q ∧ Q ((en.set i (.own (xs.set q d))).set j (.val e)) := rfl
section
variable {X : Cx} {c : Ct} {e a b : Expr} {m mv ma mb : DTE} {pos : Pos}
theorem sputPar (i j : Nat) {x y : Str} {px py p2 pt : Pos} {kt : Nat} (nd : X.N.Nodup) (hi : DE X c b m) (hv : DE X c e mv) (hc : X.calm = true := by rfl) (hN : X.N[i]? = some x := by rfl) (hM : X.N[j]? = some y := by rfl) (hvis : Vis X.env.scope x := by first | exact Or.inl rfl | exact Or.inr (Or.inl rfl) | exact Or.inr (Or.inr rfl)) (hd : (x == ("__debug__" : Str)) = false := by decide) (hcd : (x == ("__classdict__" : Str)) = false := by decide)
    (hx : Loc X.env.scope y := by first | exact Or.inl rfl | exact Or.inr rfl) (hf : X.fn y = true ∨ X.env.scope.names.lookup y = some .local := by first | exact .inl rfl | exact .inr rfl)
    (ha : ∀ v, assign (.Subscript (.Name x px) b p2) X.env v = (do
      let ov ← holding [v] (eval (.Name x px) X.env)
      let iv ← holding [v, ov] (eval b X.env)
      standAt p2
      holding [v, ov, iv] (setItem ov iv v)
      release [v, ov, iv] []) := by intro _; rfl)
    (hs1 : (assignEach [.Subscript (.Name x px) b p2, .Name y py] X.env).map (·.2) = assign (.Subscript (.Name x px) b p2) X.env :: (assignEach [.Name y py] X.env).map (·.2) := by rfl)
    (hs2 : (assignEach [.Name y py] X.env).map (·.2) = assign (.Name y py) X.env :: (assignEach [] X.env).map (·.2) := by rfl)
    (hn : (assignEach [.Subscript (.Name x px) b p2, .Name y py] X.env).length = 2 := by rfl) (hst : (assignEach [.Subscript (.Name x px) b p2, .Name y py] X.env).findIdx? (·.1) = none := by rfl)
    (hs : swapsWithSole [.Tuple [.Subscript (.Name x px) b p2, .Name y py] kt pt] e pos.line X.env = pure false := by rfl) (hw : swappedStores [.Tuple [.Subscript (.Name x px) b p2, .Name y py] kt pt] e X.env = pure none := by rfl)
    (h1 : (assignEach [.Tuple [.Subscript (.Name x px) b p2, .Name y py] kt pt] X.env).map (·.2) = [assign (.Tuple [.Subscript (.Name x px) b p2, .Name y py] kt pt) X.env] := by rfl) :
    DS X c (.Assign [.Tuple [.Subscript (.Name x px) b p2, .Name y py] kt pt] e pos) (dPutPar i j m mv) := by
  refine ⟨PS.imp (ps_asg hv.run (pg_tup hc (pgs_cons (pg_sub (pe_var hN hvis hd hcd) hi.run set_list ha) (pgs_cons (pg_name nd hM hx hf) pgs_nil hs2) hs1) hn hst) hs hw h1) fun D σ H h => ?_⟩
  obtain ⟨F, en, R, r, h, k⟩ := h
  refine ⟨F, en, _, r, h, fun t hd v F1 H1 x1 rv => ?_⟩
  unfold putPar at hd
  split at hd
  · rename_i d e
    obtain ⟨tp, us, rfl, g1, g2, g3⟩ := rv.tupI
    obtain ⟨v1, v2, rfl, rv1, rv2⟩ := g2.two
    refine ⟨tp, [v1, v2], rfl, sqT_mono x1.fh g1, rfl, ?_⟩
    unfold onOwn at hd
    split at hd
    · rename_i xs hg
      have hen := gt_get hg (fun z => nomatch z)
      have g := r.grow x1
      obtain ⟨ov, e1, p, vs, e2, e3, e4, e5⟩ := g.sl i _ hen
      subst e2
      refine ⟨v1, [v2], rfl, _, e1, F1, en, _, g, hd, fun kd hk kv F2 H2 x2 rk => ?_⟩
      cases kd with
      | int n =>
        cases rk
        obtain ⟨q, hq, hk⟩ := hk
        have g2 := g.grow x2
        have ha : ownAt σ en i p := ⟨e1, _, hen, rfl⟩
        have e3' := x2.hh _ _ e3 (g.notW ha)
        have e4' := Reps.mono x2.ff _ _ e4
        have rw1 := Rep.mono x2.ff _ _ rv1
        have rw2 := Rep.mono x2.ff _ _ rv2
        refine ⟨p, vs, n, q, rfl, rfl, e3', by rw [e4.len]; exact hq, ?_⟩
        refine ⟨v2, [], rfl, rfl, ?_⟩
        have gt := g2.turn ha (s := .own (xs.set q d)) ⟨p, _, rfl, upd_same, Reps.setD rw1 e4', by rw [List.length_set]; exact e5⟩
        exact k.nx _ _ F2 _ hk (gt.set rw2) (fun b o q => x2.ff _ _ (x1.ff _ _ q))
      | _ => exact False.elim hk
    · exact hd.elim
  · exact hd.elim
end
end Lay
namespace Lay
open PySem PySem.Spec L2
open PyProof.Rows hiding St
theorem SR.adopt {K : PySem.W.Frag} {c : Ct} {F F' H H' : Hp} {σ : St} {en : En} (r : SR K c F σ H en) (x : Ext c.wo F H F' H') {i : Nat} {p : Addr} {s : Sl} (hp : H p = none) (fp : F' p = none) (h : SlR K c F' H' (some (.ref p)) s) : SR K c F' (σ.set i (some (.ref p))) H' (en.set i s) := by
  have g := r.grow x
  have np : ∀ {j a}, ownAt σ en j a → a ≠ p := fun {j a} z => by
    obtain ⟨u, e, _⟩ := r.there z
    exact ne_of_none e hp
  have inv : ∀ {j a}, ownAt (σ.set i (some (.ref p))) (en.set i s) j a → (j = i ∧ a = p) ∨ (j ≠ i ∧ ownAt σ en j a) := fun {j a} z => by
    obtain ⟨e, u, eu, ou⟩ := z
    rcases get_set eu with ⟨q, e1, hl⟩ | ⟨q, e1⟩
    · subst q
      rw [List.getElem?_set_self (by rw [r.len]; exact hl)] at e
      cases e
      exact .inl ⟨rfl, rfl⟩
    · rw [List.getElem?_set_ne q] at e
      exact .inr ⟨fun z => q z.symm, e, u, e1, ou⟩
  refine ⟨g.ext, by simp [r.len], fun j u e => ?_, fun j a z => ?_, fun j k a z1 z2 => ?_, g.wn⟩
  · rcases get_set e with ⟨q, e1, hl⟩ | ⟨q, e1⟩
    · subst q e1
      exact ⟨_, by rw [List.getElem?_set_self (by rw [r.len]; exact hl)], h⟩
    · obtain ⟨w, e2, e3⟩ := g.sl j u e1
      exact ⟨w, by rw [List.getElem?_set_ne q]; exact e2, e3⟩
  · rcases inv z with ⟨_, e⟩ | ⟨_, z⟩
    · subst e
      exact ⟨fp, r.ext.wne hp, r.ext.back hp⟩
    · exact g.own j a z
  · rcases inv z1 with ⟨e1, e2⟩ | ⟨n1, y1⟩
    · rcases inv z2 with ⟨e3, e4⟩ | ⟨n2, y2⟩
      · rw [e1, e3]
      · exact absurd e2 (np y2)
    · rcases inv z2 with ⟨e3, e4⟩ | ⟨n2, y2⟩
      · exact absurd e4 (np y1)
      · exact g.apart j k a y1 y2
def dOwnC (i : Nat) (m : DTE) (R : DEnds) (en : En) : Prop := m en fun d => onLst d fun xs => R.nx (en.set i (.own xs))
section
variable {X : Cx} {c : Ct} {mt : DTT} {pos : Pos}
theorem lift_lcO {K : PySem.W.Frag} {z : Bool} {mi : DTA} {g : DTG} {mt : DTT} {me : DTE} {vs sl : List Nat} (hsl : ∀ i ∈ sl, i ∈ vs) {σ : St} {H : Hp} {Q : VK} {F : Hp} {en : En} {R : D → Prop} (r : SR K c F σ H en) (h : dLc z mi g mt me vs en R)
    (k : ∀ acc vacc Fc Hc p, R (.list acc) → Ext c.wo F H Fc Hc → H p = none → Hc p = some (.lst vacc) → Fc p = none → Reps K Fc vacc acc → acc.length ≤ sizeLine → Q (.ref p) Hc) :
    tLc (liftI K c z mi) (liftG K c sl g) (liftT K c mt) (liftE K c me) vs σ H Q := by
  refine ⟨F, en, _, r, h, fun ds hd J F1 H1 x1 w hz => ?_⟩
  intro D1 hD
  obtain ⟨hlen, W, w0, turn, fin⟩ := hd
  have hl : ds.length ≤ sizeLine := by
    cases z with
    | true => exact hz rfl
    | false => exact hlen rfl
  have fD : F1 D1 = none := by
    cases q : F1 D1 with
    | none => rfl
    | some u => rw [x1.fh _ _ q] at hD; cases hD
  refine ⟨fun i m Hc => m = ds.length - i ∧ i ≤ ds.length ∧ ∃ Fc acc vacc, Ext c.wo F1 H1 Fc Hc ∧ Hc D1 = some (.lst vacc) ∧ Fc D1 = none ∧ Reps K Fc vacc acc ∧ acc.length ≤ i ∧ W i acc,
    ⟨ds.length, by simp, Nat.zero_le _, F1, [], [], x1.self.poke hD fD (x1.wne hD), upd_same, fD, .nil, Nat.le_refl _, w0⟩, ?_⟩
  rintro i m Hc ⟨rfl, hi, Fc, acc, vacc, xc, hc, fc, rc, hacc, wc⟩
  by_cases hlt : i < ds.length
  · have ed : ds[i]? = some ds[i] := List.getElem?_eq_getElem hlt
    refine .inr ⟨w.go i _ Fc Hc xc.ff xc.self ed, fun H' => ∃ Fc acc vacc, Ext c.wo F1 H1 Fc H' ∧ H' D1 = some (.lst vacc) ∧ Fc D1 = none ∧ Reps K Fc vacc acc ∧ acc.length ≤ i + 1 ∧ W (i + 1) acc, fun H' h' => ⟨ds.length - (i + 1), by omega, rfl, hlt, h'⟩, fun x H' y => ?_⟩
    obtain ⟨F2, x2, rx⟩ := w.yld i _ Fc Hc x H' xc.ff xc.self ed y
    have nD : ∀ {F3 H3 : Hp}, Ext c.wo Fc Hc F3 H3 → H3 D1 = some (.lst vacc) ∧ F3 D1 = none := fun {F3 H3} x3 => by
      refine ⟨x3.hh _ _ hc fun ⟨d, q⟩ => (x1.wne hD _ q).1 rfl, ?_⟩
      cases q : F3 D1 with
      | none => rfl
      | some u =>
        have := x3.nw _ _ q fc
        rw [hc] at this; rcases this with this | ⟨_, this⟩ <;> cases this
    have r0 := ((r.grow x1).grow xc).grow x2
    refine ⟨F2, wipeE en vs, ds[i], _, r0.wipe vs, rx, turn i _ acc ed hacc wc, fun en' σ' h' r' k' => ?_⟩
    refine ⟨wipe_same (k'.1.trans (wipe_length _ _)) fun j hj => k'.2 j fun z => hj (hsl j z), F2, en', _, r', h', fun bb hb F3 H3 x3 => ?_⟩
    cases bb with
    | true =>
      refine ⟨F3, en', _, r'.grow x3, hb, fun yd hy yv F4 H4 x4 ry => ?_⟩
      have xx := x2.trans (x3.trans x4)
      obtain ⟨n1, n2⟩ := nD xx
      refine ⟨vacc, n1, by rw [rc.len]; omega, F4, acc ++ [yd], vacc ++ [yv], (xc.trans xx).poke hD n2 (x1.wne hD), upd_same, n2, (Reps.mono xx.ff _ _ rc).append (.cons ry .nil), by rw [List.length_append, List.length_singleton]; omega, hy⟩
    | false =>
      have xx := x2.trans x3
      obtain ⟨n1, n2⟩ := nD xx
      exact ⟨F3, acc, vacc, xc.trans xx, n1, n2, Reps.mono xx.ff _ _ rc, by omega, hb⟩
  · have e : i = ds.length := by omega
    subst e
    refine .inl ⟨w.stop Fc Hc xc.ff xc.self, ?_⟩
    have hD0 : H D1 = none := x1.back hD
    exact k acc vacc Fc Hc D1 (fin acc hacc wc) (x1.trans xc) hD0 hc fc rc (Nat.le_trans hacc hl)
theorem sownLc (i : Nat) {y : Str} {py : Pos} {elt tg iter : Expr} {ifs : List Expr} {scope : Scope} {own : List (Str × Nat)} {sl : List Nat} {z : Bool} {mi : DTA} {g : DTG} {me : DTE} {spos : Pos} (hN : X.N.Nodup)
    (hi : DI X c tg iter z mi) (ok : BlkOk X.N X.env.scope scope own)
    (hg : ∀ (s : Shared) (H : Hp) (C : Addr) (cl : List (Str × Addr)) (fp : List Addr), DG (X.blk s H scope (compEnvC scope cl C X.env) fp) c tg sl g) (ht : ∀ (s : Shared) (H : Hp) (C : Addr) (cl : List (Str × Addr)) (fp : List Addr), DTs (X.blk s H scope (compEnvC scope cl C X.env) fp) c ifs mt)
    (he : ∀ (s : Shared) (H : Hp) (C : Addr) (cl : List (Str × Addr)) (fp : List Addr), DE (X.blk s H scope (compEnvC scope cl C X.env) fp) c elt me)
    (hc : X.calm = true := by rfl) (hy : X.N[i]? = some y := by rfl) (hyl : X.env.scope.names.lookup y = some .local := by rfl)
    (hsw : swapsWith (.ListComp elt [⟨tg, iter, ifs, 0⟩] scope pos) (some (.Name y py)) spos.line X.env = pure true := by rfl)
    (hsl : ∀ i ∈ sl, i ∈ own.map (·.2) := by decide) (hs : ∀ x, foldedSetIterable iter X.env x = pure x := by intro _; rfl) :
    DS X c (.Assign [.Name y py] (.ListComp elt [⟨tg, iter, ifs, 0⟩] scope pos) spos) (dOwnC i (dLc z mi g mt me (own.map (·.2)))) := by
  refine ⟨PS.imp (ps_setLc (te := liftE X.K c me) (tt := liftT X.K c mt) (g := liftG X.K c sl g) (i := i) hc hN hy hyl hsw hi.run ok (fun s H C cl fp => (hg s H C cl fp).run) (fun s H C cl fp => (ht s H C cl fp).run) (fun s H C cl fp => (he s H C cl fp).run) hs) fun D σ H h => ?_⟩
  obtain ⟨F, en, R, r, h, k⟩ := h
  refine lift_lcO hsl r h fun acc vacc Fc Hc p hR x hp hc fp rs hl => ?_
  exact k.nx _ _ Fc Hc hR (r.adopt x hp fp ⟨p, vacc, rfl, hc, rs, hl⟩) x.ff
end
end Lay
namespace Lay
open PySem PySem.Spec L2 SrtO
open PyProof.Rows hiding St
def lexI : List Int → List Int → Bool
  | x :: xs, y :: ys => if x = y then lexI xs ys else decide (x < y)
  | _, _ => false
theorem lexI_swo : ∀ (n : Nat) (x y z : List Int), x.length = n → y.length = n → z.length = n → (lexI x y = true → lexI y x = false) ∧ (lexI x y = false → lexI y z = false → lexI x z = false) := by
  intro n
  induction n with
  | zero =>
    intro x y z hx hy hz
    have ex := List.eq_nil_of_length_eq_zero hx
    subst ex
    exact ⟨(fun h => nomatch h), fun _ _ => rfl⟩
  | succ n ih =>
    intro x y z hx hy hz
    match x, y, z, hx, hy, hz with
    | a :: x, b :: y, c :: z, hx, hy, hz =>
      obtain ⟨i1, i2⟩ := ih x y z (by simpa using hx) (by simpa using hy) (by simpa using hz)
      simp only [lexI]
      refine ⟨fun h => ?_, fun h1 h2 => ?_⟩
      · by_cases e : a = b
        · subst e
          rw [if_pos rfl] at h ⊢
          exact i1 h
        · rw [if_neg e, decide_eq_true_eq] at h
          rw [if_neg (fun z => e z.symm), decide_eq_false_iff_not]
          omega
      · by_cases e : a = b
        · subst e
          rw [if_pos rfl] at h1
          by_cases e2 : a = c
          · subst e2
            rw [if_pos rfl] at h2 ⊢
            exact i2 h1 h2
          · rw [if_neg e2] at h2 ⊢
            exact h2
        · rw [if_neg e, decide_eq_false_iff_not] at h1
          by_cases e2 : b = c
          · subst e2
            rw [if_neg e, decide_eq_false_iff_not]
            exact h1
          · rw [if_neg e2, decide_eq_false_iff_not] at h2
            rw [if_neg (by omega), decide_eq_false_iff_not]
            omega
section
variable {prog : Program} {w : World} {A : Around} {s : Shared}
theorem lex_walk {fin : Bool} : ∀ {xs ys : List Value} {ns ms : List Int}, IntsAre xs ns → IntsAre ys ms → ns.length = ms.length → fin = false → ∀ (i : Nat), PySem.W.KatLex prog w A true fin (fun r s' => s' = s ∧ r = lexI ns ms) (xs.zip ys) i s
  | _, _, _, _, .nil, .nil, _, hf, i => PySem.W.kat_nil ⟨rfl, by rw [hf]; rfl⟩
  | _, _, _, _, .nil, .cons _ _ _, h, _, _ => by simp at h
  | _, _, _, _, .cons _ _ _, .nil, h, _, _ => by simp at h
  | _, _, _, _, .cons n t r, .cons m u q, h, hf, i => by
    refine PySem.W.kat_cons (SeqAt.EqAt.int_int n t m u prog w _ _ ?_)
    refine PySem.W.kat_go (fun e1 => ?_) (fun e1 => ?_)
    · have ex : n = m := by simpa using e1
      subst ex
      have := lex_walk (fin := fin) r q (by simpa using h) hf (i + 1)
      refine PySem.W.kat_yes ?_
      simp only [lexI, if_true]
      exact this
    · have ex : ¬ n = m := by simpa using e1
      refine PySem.W.kat_no ?_
      simp only [lexI, if_neg ex]
      cases hi : (true && i == 0)
      · exact PySem.W.kat_one _ _ (PyProof.Rows.lt_int ⟨rfl, rfl⟩)
      · exact oneLt_int ⟨rfl, rfl⟩
theorem swo_lexI {d : Nat} {k : Value → List Int} (hk : ∀ v, (k v).length = d) : Swo fun v u => lexI (k v) (k u) :=
  ⟨fun x y h => (lexI_swo d (k x) (k y) (k y) (hk x) (hk y) (hk y)).1 h, fun x y z h1 h2 => (lexI_swo d (k z) (k y) (k x) (hk z) (hk y) (hk x)).2 h2 h1⟩
theorem tups_cmp {d : Nat} {vs : List Value} {k : Value → List Int} (hk : ∀ v, (k v).length = d) (hp : ∀ v ∈ vs, TS.TupInts s.heap v (k v)) : Cmp prog w A s (tuples' true) (fun p => p.1 ∈ vs) (lt2 fun v u => lexI (k v) (k u)) := by
  intro p q hm hm'
  obtain ⟨a, xs, e, ⟨o, ho, hc, n, hd⟩, i⟩ := hp _ hm
  obtain ⟨a', xs', e', ⟨o', ho', hc', n', hd'⟩, i'⟩ := hp _ hm'
  show wpAny (model prog w) A (keyLt' (tuples' true) p.1 q.1) (fun r s' => s' = s ∧ r = lexI (k p.1) (k q.1)) (fun _ _ => False) s
  have hl : (k p.1).length = (k q.1).length := by rw [hk, hk]
  generalize k p.1 = ns at i hl ⊢
  generalize k q.1 = ms at i' hl ⊢
  rw [e, e']
  refine PySem.W.kat_lt ho hd ho' hd' ?_
  refine lex_walk i i' hl ?_ 0
  have l1 := i.length
  have l2 := i'.length
  rw [Array.length_toList] at l1 l2
  exact decide_eq_false (by omega)
theorem firstsN {h : Heap} {d : Nat} {k : Value → List Int} (hd : 1 ≤ d) (hk : ∀ v, (k v).length = d) : ∀ vs : List Value, (∀ v ∈ vs, TS.TupInts h v (k v)) → ∃ fs, PySem.W.KatTups h vs fs ∧ fs.length = vs.length ∧ ∀ f, f ∈ fs → ∃ n t, f = Value.int n t
  | [], _ => ⟨[], PySem.W.KatTups.nil, rfl, fun f hf => by simp at hf⟩
  | v :: vs, x => by
    obtain ⟨fs, kk, hl, hi⟩ := firstsN hd hk vs fun u hu => x u (List.mem_cons_of_mem _ hu)
    obtain ⟨a, xs, e0, ⟨o, ho, hc, n, hdt⟩, i⟩ := x v (List.mem_cons_self ..)
    obtain ⟨y, ys, e⟩ : ∃ y ys, xs.toList = y :: ys := by
      cases q : xs.toList with
      | nil =>
        rw [q] at i
        have l := i.length
        rw [List.length_nil, hk] at l
        omega
      | cons y ys => exact ⟨y, ys, rfl⟩
    obtain ⟨m, t, hy⟩ := i.all y (by rw [e]; exact List.mem_cons_self ..)
    rw [e0]
    refine ⟨y :: fs, PySem.W.KatTups.cons ho hc hdt ?_ kk, by simp [hl], ?_⟩
    · have z := congrArg (fun l : List Value => l[0]?) e
      simpa using z
    · intro f hf
      rcases List.mem_cons.mp hf with rfl | hf
      · exact ⟨m, t, hy⟩
      · exact hi f hf
theorem tups_sortableO {a : Addr} {vs : List Value} {d : Nat} {k : Value → List Int} (h0 : 0 < vs.length) (hd : 1 ≤ d) (hk : ∀ v, (k v).length = d) (hp : ∀ v ∈ vs, TS.TupInts s.heap v (k v)) (ha : ∀ o, s.heap.get? a = some o → o.cls ≠ .type "tuple") : SortableO prog w A s a vs fun v u => lexI (k v) (k u) := by
  intro h' keep
  have hp' : ∀ v ∈ vs, TS.TupInts h' v (k v) := fun v hm => (hp v hm).keeps fun b o e c => keep b o (fun z => by subst z; exact ha o e c) e
  obtain ⟨fs, h1, h2, h3⟩ := firstsN hd hk vs hp'
  refine ⟨tuples' true, fun Q E hq => ?_, tups_cmp (s := { s with heap := h' }) hk hp'⟩
  refine PySem.W.kat_kind (T := .type "int") h1 (by omega) (fun f hm => ?_) (by rfl) ?_
  · obtain ⟨x, t, rfl⟩ := h3 f hm
    exact PySem.W.Looks.now
  · have e : (Value.type "int" != Value.type "tuple") = true := by first | decide +kernel | rfl | decide
    rw [e]
    exact hq
theorem sorted_tupsO {l : Addr} {vs : List Value} {d : Nat} {k : Value → List Int} {E : Value → Shared → Prop} {Q : Value → Shared → Prop} (hl : s.heap.IsList l vs.toArray) (hz : vs.length ≤ sizeLine) (hd : 1 ≤ d) (hk : ∀ v, (k v).length = d) (hp : ∀ v ∈ vs, TS.TupInts s.heap v (k v))
    (h : ∀ (h' : Heap) (d : Addr) (out : List Value), Srtd (fun v u => lexI (k v) (k u)) out → Stb (fun v u => lexI (k v) (k u)) out vs → (∀ b o, s.heap.get? b = some o → h'.get? b = some o) → s.heap.objs.size ≤ d → (∃ n, h'.get? d = some (seqObj "list" out.toArray n)) → Q (.ref d) { s with heap := h' }) :
    wpAny (model prog w) A (call (.builtin "sorted") [.ref l]) Q E s := by
  refine sorted_ord (swo_lexI hk) hl hz (fun h2 h₁ a ha kk => ?_) fun out hs hb => ?_
  · refine tups_sortableO (s := { s with heap := h₁ }) (by omega) hd hk (fun v hm => (hp v hm).keeps fun b o e _ => (kk b o e).2) fun o e => ?_
    have e' : some o = some (seqObj "list" vs.toArray 0) := e.symm.trans ha
    cases e'
    intro c
    exact absurd (Value.type.inj c) (by decide)
  · exact h _ _ out hs hb (fun b o e => sortedAll_old e) (Nat.le_succ _) (sortedAll_at s.heap vs out.toArray)
end
/-- sorted(xs), xs a list of tuples of d ints: a new list of the same, ascending -/
def rSortedN (K : PySem.W.Frag) : List V → Hp → VK → Prop := fun vs H Q => ∃ (a : Addr) (ps : List (V × List Int)) (d : Nat), vs = [V.ref a] ∧ SqL K H a (ps.map (·.1)) ∧ 1 ≤ d ∧ (∀ p ∈ ps, p.2.length = d ∧ ∃ t, p.1 = V.ref t ∧ SqT K H t (p.2.map V.int)) ∧
  ∀ (qs : List (V × List Int)) (p : Addr), qs.Perm ps → qs.Pairwise (fun x y => lexI y.2 x.2 = false) → H p = none → Q (.ref p) (upd H p (.lst (qs.map (·.1))))
theorem cr_sortedN {X : Cx} : CallR X (.builtin "sorted") (rSortedN X.K) := by
  intro pins s σ H vs us Q I r h
  obtain ⟨a, ps, d, rfl, hs, hd, hx, q⟩ := h
  obtain ⟨its, rv, hl, hz⟩ := I.list hs
  obtain ⟨u, rfl, ru⟩ := vals1 r
  obtain rfl : u = Value.ref a := ru
  obtain ⟨e1, e2⟩ := refs_back rv fun x m => by
    obtain ⟨p, hp, rfl⟩ := List.mem_map.mp m
    obtain ⟨_, t, e, _⟩ := hx p hp
    exact ⟨t, e⟩
  -- the keys, read off the heap
  let k : Value → List Int := fun v => if (TS.intsOf s.heap v).length = d then TS.intsOf s.heap v else List.replicate d 0
  have hk : ∀ v, (k v).length = d := fun v => by
    show (if _ then _ else _ : List Int).length = d
    split
    · assumption
    · exact List.length_replicate
  have hraw : ∀ p ∈ ps, ∀ v : Value, p.1 = backV v → (∃ t, v = Value.ref t) → TS.TupInts s.heap v p.2 ∧ k v = p.2 := fun p hp v e ⟨t, et⟩ => by
    subst et
    obtain ⟨hl, t', e', hT⟩ := hx p hp
    rw [e] at e'
    cases e'
    have ht := tupI_raw I hT
    have := ht.ints
    refine ⟨ht, ?_⟩
    show (if _ then _ else _ : List Int) = _
    rw [this, if_pos hl]
  have epair : ∀ (ps : List (V × List Int)) (its : List Value), ps.map (·.1) = its.map backV → (∀ p ∈ ps, ∀ v : Value, p.1 = backV v → (∃ t, v = Value.ref t) → TS.TupInts s.heap v p.2 ∧ k v = p.2) → (∀ u ∈ its, ∃ a, u = Value.ref a) → ps = its.map fun v => (backV v, k v) := by
    intro ps
    induction ps with
    | nil => intro its h _ _; cases its with | nil => rfl | cons _ _ => simp at h
    | cons p ps ih =>
      intro its h h1 h2
      cases its with
      | nil => simp at h
      | cons v its =>
        rw [List.map_cons, List.map_cons] at h
        obtain ⟨ha, hb⟩ := List.cons.inj h
        rw [List.map_cons, ← ih its hb (fun p hp => h1 p (List.mem_cons_of_mem _ hp)) fun u hu => h2 u (List.mem_cons_of_mem _ hu)]
        congr 1
        refine Prod.ext ha ?_
        exact (h1 p List.mem_cons_self v ha (h2 v List.mem_cons_self)).2.symm
  have eps := epair ps its e1 hraw e2
  refine sorted_tupsO (d := d) (k := k) hl.isList (by rw [← rv.length]; exact hz) hd hk (fun v hv => ?_) fun h' d' out h1 h2 kp hd' hn => ?_
  · have hm : (backV v, k v) ∈ ps := by rw [eps]; exact List.mem_map.mpr ⟨v, hv, rfl⟩
    exact (hraw _ hm v rfl (e2 v hv)).1
  · have h3 : ∀ u ∈ out, ∃ a, u = Value.ref a := fun u hu => e2 u (h2.perm.mem_iff.mp hu)
    obtain ⟨n, hn⟩ := hn
    have hp : (out.map fun v => (backV v, k v)).Perm ps := by
      rw [eps]
      exact h2.perm.map _
    have hsr : (out.map fun v => (backV v, k v)).Pairwise (fun x y => lexI y.2 x.2 = false) := by
      rw [List.pairwise_map]
      exact h1
    have emap : (out.map fun v => (backV v, k v)).map (·.1) = out.map backV := by rw [List.map_map]; rfl
    have hfin := q _ d' hp hsr (I.hok.fresh hd')
    rw [emap] at hfin
    refine ⟨.ref d', upd H d' (.lst (out.map backV)), I.laid (t' := s.toks) kp hd' ⟨?_, out, n, vals_back h3, hn⟩, rfl, hfin⟩
    rw [List.length_map, h2.perm.length_eq]
    have := rv.length
    omega
def tupD (n : List Int) : D := .tuple (n.map .int)
def sortedTD : DC := fun ds Q => match ds with
  | [.list xs] => ∃ (ns : List (List Int)) (d : Nat), xs = ns.map tupD ∧ 1 ≤ d ∧ (∀ n ∈ ns, n.length = d) ∧ ∀ ms : List (List Int), ms.Perm ns → ms.Pairwise (fun x y => lexI y x = false) → Q (.list (ms.map tupD))
  | _ => False
theorem reps_pairs {K : PySem.W.Frag} {F : Hp} : ∀ {vs : List V} {ns : List (List Int)}, Reps K F vs (ns.map tupD) → (vs.zip ns).map (·.1) = vs ∧ (vs.zip ns).map (·.2) = ns ∧ ∀ p ∈ vs.zip ns, Rep K F p.1 (tupD p.2)
  | _, [], h => by cases h; exact ⟨rfl, rfl, fun p hp => nomatch hp⟩
  | _, n :: ns, h => by
    cases h with
    | cons h1 h2 =>
      obtain ⟨a, b, c⟩ := reps_pairs h2
      refine ⟨by rw [List.zip_cons_cons, List.map_cons, a], by rw [List.zip_cons_cons, List.map_cons, b], fun p hp => ?_⟩
      rcases List.mem_cons.mp hp with rfl | hp
      · exact h1
      · exact c p hp
theorem reps_of {K : PySem.W.Frag} {F : Hp} : ∀ {qs : List (V × List Int)}, (∀ p ∈ qs, Rep K F p.1 (tupD p.2)) → Reps K F (qs.map (·.1)) ((qs.map (·.2)).map tupD)
  | [], _ => .nil
  | q :: qs, h => .cons (h q List.mem_cons_self) (reps_of fun p hp => h p (List.mem_cons_of_mem _ hp))
theorem sv_sortedT {K : PySem.W.Frag} {c : Ct} : ServesC K c (rSortedN K) sortedTD := by
  intro F H vs ds R Q ex rv h k
  unfold sortedTD at h
  split at h
  · obtain ⟨ns, d, rfl, hd, hn, h⟩ := h
    obtain ⟨v, rfl, r1⟩ := rv.one
    obtain ⟨p, ys, rfl, g1, g2, g3⟩ := r1.lstI
    obtain ⟨z1, z2, z3⟩ := reps_pairs g2
    refine ⟨p, ys.zip ns, d, rfl, by rw [z1]; exact SqL.of (ex.fh _ _ g1), hd, fun q hq => ⟨hn _ (by rw [← z2]; exact List.mem_map.mpr ⟨q, hq, rfl⟩), ?_⟩, fun qs l hp hs hl => ?_⟩
    · obtain ⟨t, xs, e, s1, s2, _⟩ := (z3 q hq).tupI
      have e2 := s2.ints_inv
      subst e2
      exact ⟨t, e, sqT_mono ex.fh s1⟩
    · have hr := reps_of (qs := qs) (K := K) (F := F) fun q hq => z3 q (hp.mem_iff.mp hq)
      have hm : (qs.map (·.2)).Perm ns := by rw [← z2]; exact hp.map _
      have hz : ((qs.map (·.2)).map tupD).length ≤ sizeLine := by
        rw [List.length_map, hm.length_eq, ← List.length_map (f := tupD)]
        exact g3
      obtain ⟨y1, y2⟩ := newLst ex hl hr hz
      refine k _ (h _ hm ?_) _ _ _ y1 y2
      rw [List.pairwise_map]
      exact hs
  · exact h.elim
theorem de_sortedT {X : Cx} {c : Ct} {a : Expr} {ml : DTA} {p pos : Pos} (hm : X.mg "sorted" = none) (ha : DA X c [a] ml) (hg : Gl X "sorted" := by rfl) (he : starEach [a] X.env = (false, eval a X.env) :: starEach [] X.env := by rfl) (hpl : (backTo pos (starEach [] X.env)).any (·.1) = false := by rfl) : DE X c (.Call (.Name "sorted" p) [a] [] pos) (dB sortedTD ml) :=
  de_callB cr_sortedN sv_sortedT hg hm boot_sorted ha (by decide) (by decide) he hpl
end Lay
namespace Lay
open PySem PySem.Spec L2
open PyProof.Rows hiding St
section
variable {X : Cx} {c : Ct} {a b cc dd : Expr} {ta tb tc td : TE} {ma mb mc md : DTE} {pos : Pos}
def tChain3 (r r' r'' : R2) (ta tb tc td : TE) : TE := fun σ H Q => ta σ H fun x H1 => tb σ H1 fun y H2 => r x y H2 fun z H3 => ∃ k, z = .bl k ∧
  (if k = true then tc σ H3 fun w' H4 => r' y w' H4 fun z2 H5 => ∃ k2, z2 = .bl k2 ∧ (if k2 = true then td σ H5 fun w2 H6 => r'' w' w2 H6 Q else Q (.bl false) H5) else Q (.bl false) H3)
theorem pe_chain3 {op op' op'' : CmpOp} {r r' r'' : R2} (ho : OpR X (compareOp op) r) (ho' : OpR X (compareOp op') r') (ho'' : OpR X (compareOp op'') r'') (ha : PE X a ta) (hb : PE X b tb) (hc : PE X cc tc) (hd : PE X dd td)
    (hm : lastMarks [op, op', op''] [b, cc, dd] = false := by with_unfolding_all rfl) : PE X (.Compare a [op, op', op''] [b, cc, dd] pos) (tChain3 r r' r'' ta tb tc td) := by
  refine ⟨fun pins s σ H Q I h => ?_⟩
  refine Compare_chain (thn (ha.run pins s σ H _ I h) fun v s1 ⟨x, H1, I1, r1, q1⟩ => chain_link (thn (hb.run pins s1 σ H1 _ I1 q1) fun u s2 ⟨y, H2, I2, r2, q2⟩ =>
    thn (ho pins s2 σ H2 x y v u _ I2 r1 r2 q2) fun d s3 ⟨z, H3, I3, r3, k, e, q3⟩ => ?_)) hm
  subst e
  cases r3
  refine wpAny_truthy_bool ?_
  cases k with
  | false => exact ite_ff ⟨.bl false, H3, I3, rfl, q3⟩
  | true =>
    refine ite_tt (chain_link (thn (hc.run pins s3 σ H3 _ I3 q3) fun w' s4 ⟨z', H4, I4, r4, q4⟩ => thn (ho' pins s4 σ H4 y z' u w' _ I4 r2 r4 q4) fun d2 s5 ⟨z2, H5, I5, r5, k2, e2, q5⟩ => ?_))
    subst e2
    cases r5
    refine wpAny_truthy_bool ?_
    cases k2 with
    | false => exact ite_ff ⟨.bl false, H5, I5, rfl, q5⟩
    | true => exact ite_tt (chain_last (thn (hd.run pins s5 σ H5 _ I5 q5) fun w2 s6 ⟨z3, H6, I6, r6, q6⟩ => ho'' pins s6 σ H6 z' z3 w' w2 Q I6 r4 r6 q6))
theorem pt_chain3 {op op' op'' : CmpOp} {r r' r'' : R2} (ho : OpR X (compareOp op) r) (ho' : OpR X (compareOp op') r') (ho'' : OpR X (compareOp op'') r'') (ha : PE X a ta) (hb : PE X b tb) (hc : PE X cc tc) (hd : PE X dd td)
    (hm : lastMarks [op, op', op''] [b, cc, dd] = false := by with_unfolding_all rfl) : PT X (.Compare a [op, op', op''] [b, cc, dd] pos) (tTest (tChain3 r r' r'' ta tb tc td)) := by
  refine ⟨fun pins s σ H Q I h => ?_⟩
  refine isTrue_chain (thn (ha.run pins s σ H _ I h) fun v s1 ⟨x, H1, I1, r1, q1⟩ => test_link (thn (hb.run pins s1 σ H1 _ I1 q1) fun u s2 ⟨y, H2, I2, r2, q2⟩ =>
    thn (ho pins s2 σ H2 x y v u _ I2 r1 r2 q2) fun d s3 ⟨z, H3, I3, r3, k, e, q3⟩ => ?_)) hm
  subst e
  cases r3
  refine wpAny_truthy_bool ?_
  cases k with
  | false =>
    obtain ⟨k', e', q'⟩ := q3
    cases e'
    exact ite_ff ⟨H3, I3, q'⟩
  | true =>
    refine ite_tt (test_link (thn (hc.run pins s3 σ H3 _ I3 q3) fun w' s4 ⟨z', H4, I4, r4, q4⟩ => thn (ho' pins s4 σ H4 y z' u w' _ I4 r2 r4 q4) fun d2 s5 ⟨z2, H5, I5, r5, k2, e2, q5⟩ => ?_))
    subst e2
    cases r5
    refine wpAny_truthy_bool ?_
    cases k2 with
    | false =>
      obtain ⟨k', e', q'⟩ := q5
      cases e'
      exact ite_ff ⟨H5, I5, q'⟩
    | true =>
      refine ite_tt (test_last (thn (hd.run pins s5 σ H5 _ I5 q5) fun w2 s6 ⟨z3, H6, I6, r6, q6⟩ => thn (ho'' pins s6 σ H6 z' z3 w' w2 _ I6 r4 r6 q6) fun d3 s7 ⟨z4, H7, I7, r7, k3, e3, q7⟩ => ?_))
      subst e3
      cases r7
      exact wpAny_truthy_bool ⟨H7, I7, q7⟩
def dCh3 (d2 d3 d4 : D2) (ma mb mc md : DTE) (en : En) (Q : D → Prop) : Prop := ma en fun x => mb en fun y => d2 x y fun z => asB z fun b => Cnd b (mc en fun w => d3 y w fun z => asB z fun b => Cnd b (md en fun v => d4 w v Q) (Q (.bool false))) (Q (.bool false))
theorem lift_ch3 {K : PySem.W.Frag} {r2 r3 r4 : R2} {d2 d3 d4 : D2} (sv : Serves K c r2 d2) (sv' : Serves K c r3 d3) (sv'' : Serves K c r4 d4) {σ : St} {H : Hp} {Q : VK} (h : liftE K c (dCh3 d2 d3 d4 ma mb mc md) σ H Q) : tChain3 r2 r3 r4 (liftE K c ma) (liftE K c mb) (liftE K c mc) (liftE K c md) σ H Q := by
  obtain ⟨F, en, R, r, h, k⟩ := h
  refine ⟨F, en, _, r, h, fun d hd v F1 H1 x1 rv => ?_⟩
  refine ⟨F1, en, _, r.grow x1, hd, fun e he u F2 H2 x2 ru => ?_⟩
  refine sv F2 H2 v u d e _ _ x2.self (Rep.mono x2.ff _ _ rv) ru he fun z hz v' F3 H3 x3 rz => ?_
  cases z with
  | bool i =>
    cases rz
    refine ⟨i, rfl, ?_⟩
    cases i with
    | true =>
      refine ⟨F3, en, _, (r.grow (x1.trans x2)).grow x3, hz, fun w hw v4 F4 H4 x4 r4 => ?_⟩
      refine sv' F4 H4 u v4 e w _ _ x4.self (Rep.mono x4.ff _ _ (Rep.mono x3.ff _ _ ru)) r4 hw fun z hz v5 F5 H5 x5 r5 => ?_
      have xx := x1.trans (x2.trans (x3.trans (x4.trans x5)))
      cases z with
      | bool j =>
        cases r5
        refine ⟨j, rfl, ?_⟩
        cases j with
        | true =>
          refine ⟨F5, en, _, r.grow xx, hz, fun w2 hw2 v6 F6 H6 x6 r6 => ?_⟩
          exact sv'' F6 H6 v4 v6 w w2 R Q x6.self (Rep.mono x6.ff _ _ (Rep.mono x5.ff _ _ r4)) r6 hw2 fun z hz v7 F7 H7 x7 r7 => k z hz v7 F7 H7 (xx.trans (x6.trans x7)) r7
        | false => exact k _ hz _ F5 H5 xx (.bl _)
      | _ => exact False.elim hz
    | false => exact k _ hz _ F3 H3 (x1.trans (x2.trans x3)) (.bl _)
  | _ => exact False.elim hz
theorem de_ch3 {op op' op'' : CmpOp} {r2 r3 r4 : R2} {d2 d3 d4 : D2} (ho : OpR X (compareOp op) r2) (ho' : OpR X (compareOp op') r3) (ho'' : OpR X (compareOp op'') r4) (sv : Serves X.K c r2 d2) (sv' : Serves X.K c r3 d3) (sv'' : Serves X.K c r4 d4) (ha : DE X c a ma) (hb : DE X c b mb) (hc : DE X c cc mc) (hd : DE X c dd md)
    (hm : lastMarks [op, op', op''] [b, cc, dd] = false := by with_unfolding_all rfl) : DE X c (.Compare a [op, op', op''] [b, cc, dd] pos) (dCh3 d2 d3 d4 ma mb mc md) :=
  ⟨PE.imp (pe_chain3 ho ho' ho'' ha.run hb.run hc.run hd.run hm) fun _ _ _ h => lift_ch3 sv sv' sv'' h⟩
theorem dt_ch3 {op op' op'' : CmpOp} {r2 r3 r4 : R2} {d2 d3 d4 : D2} (ho : OpR X (compareOp op) r2) (ho' : OpR X (compareOp op') r3) (ho'' : OpR X (compareOp op'') r4) (sv : Serves X.K c r2 d2) (sv' : Serves X.K c r3 d3) (sv'' : Serves X.K c r4 d4) (ha : DE X c a ma) (hb : DE X c b mb) (hc : DE X c cc mc) (hd : DE X c dd md)
    (hm : lastMarks [op, op', op''] [b, cc, dd] = false := by with_unfolding_all rfl) : DT X c (.Compare a [op, op', op''] [b, cc, dd] pos) (dT (dCh3 d2 d3 d4 ma mb mc md)) :=
  ⟨PT.imp (pt_chain3 ho ho' ho'' ha.run hb.run hc.run hd.run hm) fun _ _ _ h => lift_ch3 sv sv' sv'' (lift_test h)⟩
end
end Lay
namespace Lay
open PySem PySem.Spec L2 SrtO
open PyProof.Rows hiding St
abbrev bare (w : World) : Obj := { cls := .type "set", dict := none, data := .set #[] 0 (.fresh 0 0 (!w.params.followText "set-order")) }
section
variable {P : Program} {w : World} {A : Around} {E : Value → Shared → Prop} {s : Shared}
set_option maxHeartbeats 3200000 in
theorem set_of_list {l : Addr} {vs : Array Value} (ns : List Int) {Q : Value → Shared → Prop} (hA : A.handled = none) (hl : s.heap.IsList l vs) (hv : IntsAre vs.toList ns) (hb : ns.length + 1 < scanBound)
    (k : ∀ (g : Heap) (tk c : Nat), SetR w g s.heap.objs.size (fun j => decide (j ∈ ns)) c → c ≤ ns.length → (∀ b o, s.heap.get? b = some o → g.get? b = some o) → Q (.ref s.heap.objs.size) { s with heap := g, toks := tk }) :
    wpAny (model P w) A (call (.type "set") [.ref l]) Q E s := by
  have hn : vs.size = ns.length := by have q := hv.length; rwa [Array.length_toList] at q
  obtain ⟨mc, mt, hmro⟩ := F.called_set.mro
  have m1 := F.called_set.made
  have m2 := F.called_set.sub
  refine wpAny_call (codeAny_of_tree (show wpAny _ _ (callAny (.type "set") _) _ _ _ from wpAny_pure ⟨Code.quiet_builtin _ (by decide +kernel), codeAny_builtin F.entry_type_call ?_⟩))
  rw [Around.under_plain (weight_type_call_type "set" [.ref l] []) rfl]
  have m3 := F.called_set.notType
  have m4 := F.called_set.canCreate
  have m5 := F.typeCall_set_1 (.ref l)
  repeat (any_goals (first | assumption | wp_step))
  refine codeAny_mono (code_set_led1 (.ref l) (E := E) (Q₁ := fun x s₁ => x = .ref s.heap.objs.size ∧ s₁ = { s with heap := s.heap.push (bare w) }) ⟨rfl, rfl⟩) fun r s₁ hr => ?_
  cases r with
  | error e => exact hr
  | ok fl =>
    cases fl with
    | ret x =>
      obtain ⟨rfl, rfl⟩ := hr
      have at0 : (s.heap.push (bare w)).get? s.heap.objs.size = some (bare w) := Heap.get?_push_size _ rfl
      have ty0 : Shared.TypeIs { s with heap := s.heap.push (bare w) } (.ref s.heap.objs.size) "set" := ⟨_, at0, rfl⟩
      have m6 := F.called_set.init.lookup
      have m7 := F.called_set.init.bind (.ref s.heap.objs.size)
      repeat (any_goals (first | assumption | wp_step))
      refine codeAny_mono (codeAny_call_builtin (R := wants (fun r s₂ => r = .none ∧ ∃ g tk c, s₂ = { s with heap := g, toks := tk } ∧ SetR w g s.heap.objs.size (fun j => decide (j ∈ ns)) c ∧ c ≤ ns.length ∧ (∀ b o, s.heap.get? b = some o → g.get? b = some o)) E) F.called_set.init.plain F.entry_set_init (check_set_init_1 ty0 ?_)) fun r₂ s₂ hr₂ => ?_
      · obtain ⟨⟨c0, d0, x0, y0⟩, ho, hc0, n0, hd0⟩ := hl
        simp only at hc0 hd0
        subst hc0; subst hd0
        have ho' : (s.heap.push (bare w)).get? l = some { cls := .type "list", dict := d0, data := .seq vs n0, slots := y0 } := Heap.get?_push_of_some _ ho
        have m8 := F.sub_list_set
        have m9 := F.sub_list_frozenset
        have nodict : (Value.type "list" == Value.type "dict") = false := by decide
        have isl : (s.heap.push (bare w)).IsList l vs := ⟨_, ho', rfl, n0, rfl⟩
        unfold Builtin.«set.__init__» noKeywords Builtin.Frozenset.updateFrom
        generalize hpi : pyIter = pi
        wp_walk
        subst hpi
        refine wpAny_pyIter_list isl (wpAny_bind (wpAny_runValue ?_))
        have ls : l < s.heap.objs.size := Heap.lt_size ho
        have hA3 : A.in1.in1.in1.handled = none := by simp [hA]
        have sz : (s.heap.push (bare w)).objs.size = s.heap.objs.size + 1 := Heap.size_push ..
        have l1 : l ≠ (s.heap.push (bare w)).objs.size := by rw [sz]; exact Nat.ne_of_lt (Nat.lt_succ_of_lt ls)
        have nof : s.heap.objs.size ∉ [(s.heap.push (bare w)).objs.size, l] := by
          intro z
          rw [sz] at z
          rcases List.mem_cons.mp z with z | z
          · exact Nat.ne_of_lt (Nat.lt_succ_self _) z
          · exact Nat.ne_of_gt ls (List.mem_singleton.mp z)
        have each : ∀ (i : Nat) (v : Value), vs[i]? = some v → ∃ k t, ns[i]? = some k ∧ v = .int k t := fun i v e => by
          have hi : i < ns.length := by rw [← hn]; exact (Array.getElem?_eq_some_iff.mp e).1
          obtain ⟨t, e'⟩ := hv.int_at i v (by rw [Array.getElem?_toList]; exact e)
          have eg := List.getElem?_eq_getElem hi
          rw [List.getD_eq_getElem?_getD, eg] at e'
          exact ⟨_, t, eg, e'⟩
        refine set_update_ints ((Walks.list hA3 _ l l1 vs).toS) s.heap.objs.size nof ns hn hb each (vs.size - 0) 0 _ (by omega) (Nat.zero_le _) ⟨⟨_, Heap.get?_push_size _ rfl, rfl, rfl⟩, isl.push _⟩ ⟨0, Nat.le_refl 0, setR_new_at (Heap.get?_push_of_some _ at0)⟩ ?_
        rintro ⟨g, ge, dr, tk, os⟩ c hm hc hS
        obtain rfl : ge = s.gens := hm.gens
        obtain rfl : dr = s.drawn := hm.drawn
        obtain rfl : os = s.os := hm.os
        show wpAny _ _ _ _ _ _
        refine wpAny_pure (show wpAny _ _ (ret Value.none) _ _ _ from wpAny_pure ⟨rfl, g, tk, c, rfl, hS, by omega, fun b o e => ?_⟩)
        have bs : b < s.heap.objs.size := Heap.lt_size e
        refine hm.heap b o (fun z : b ∈ [s.heap.objs.size, (s.heap.push (bare w)).objs.size] => ?_) (Heap.get?_push_of_some _ (Heap.get?_push_of_some _ e))
        rw [sz] at z
        rcases List.mem_cons.mp z with z | z
        · exact Nat.ne_of_lt bs z
        · exact Nat.ne_of_lt (Nat.lt_succ_of_lt bs) (List.mem_singleton.mp z)
      · cases r₂ with
        | error e => exact hr₂
        | ok fl₂ =>
          cases fl₂ with
          | ret r =>
            obtain ⟨rfl, g, tk, c, rfl, z1, z2, z3⟩ := hr₂
            repeat (any_goals (first | assumption | wp_step))
            exact k _ _ _ z1 z2 z3
          | _ => exact hr₂.elim
    | _ => exact hr.elim
/-- sorted of a set, any number of members -/
theorem sorted_of_set {a : Addr} {S : Int → Bool} {n : Nat} {Q : Value → Shared → Prop} (R : SetR w s.heap a S n) (hA : A.handled = none)
    (k : ∀ s' p (out : Array Value) (c : Nat) (ns : List Int), (∀ b o, s.heap.get? b = some o → s'.heap.get? b = some o) → s'.gens = s.gens → s'.os = s.os → s.heap.objs.size ≤ p →
      s'.heap.get? p = some (seqObj "list" out c) → IntsAre out.toList ns → ns.Pairwise (· < ·) → (∀ k, k ∈ ns ↔ S k = true) → ns.length = n → Q (.ref p) s') :
    wpAny (model P w) A (call (.builtin "sorted") [.ref a]) Q E s := by
  obtain ⟨o, es, ep, t, ho, hx, hd, good, nd, mem, few, fit, hn, ris, led⟩ := R
  refine Calls.call_function_entry kind_sorted plain_sorted entry_sorted (args_sorted1 _) ?_
  unfold Builtin.«sorted»
  refine wpAny_bind (m := checkCount "sorted" 1 1 _) (wpAny_pure (wpAny_bind (collect_set (A := A.in1) hA ⟨o, ho, hx.1, hd⟩ fit few ris led fun s1 vs kp gz gg go pm => ?_)))
  have vn : vs.length = n := by rw [pm.length_eq, List.length_map, Array.length_toList]; exact hn
  have vz : vs.length ≤ sizeLine := by
    have : scanBound = 4096 := rfl
    rw [sizeLine_eq]
    omega
  have hin : IntsAre vs (vs.map Builtin.Re.reRawOf) := ints_of vs fun v m => by
    obtain ⟨e, he, rfl⟩ := List.mem_map.mp (pm.mem_iff.mp m)
    obtain ⟨i, tk, h1, _⟩ := good e he
    exact ⟨i, tk, h1⟩
  have keys : (vs.map Builtin.Re.reRawOf).Perm (es.toList.map keyOf) := by
    have q := pm.map Builtin.Re.reRawOf
    rw [List.map_map] at q
    exact q
  refine wpAny_bind (wpAny_newList ?_ vz)
  have at1 : (s1.heap.push (seqObj "list" vs.toArray 0)).get? s1.heap.objs.size = some (seqObj "list" vs.toArray 0) := Heap.get?_push_size _ rfl
  refine wpAny_bind (wpAny_holding (wpAny_call_entry slot_list_sort ⟨_, at1, rfl⟩ entry_list_sort (list_sort_ord swo_int at1 vz (fun h2 => ints_sortable hin h2) fun out h1 h2 => ⟨_, rfl, ?_⟩) (args_list_sort _)))
  obtain ⟨k1, k2, k3⟩ := ints_out hin h1 h2
  obtain ⟨c, hc⟩ := sortedHeap_at (vs := vs) (out := out.toArray) at1
  have pk := k2.trans keys
  refine wpAny_pure ⟨_, rfl, k _ s1.heap.objs.size out.toArray c _ (fun b u e => ?_) gg go gz hc k1 (lt_of_le_nodup _ k3 (pk.nodup_iff.mpr nd)) (fun i => by rw [pk.mem_iff, ← mem i]) ?_⟩
  · have q := kp b u e
    have lt := Heap.lt_size q
    show (sortedHeap (s1.heap.push (seqObj "list" vs.toArray 0)) s1.heap.objs.size vs out.toArray).get? b = some u
    rw [sortedHeap_old (Nat.ne_of_lt lt) (by rw [size_push']; exact Nat.lt_succ_of_lt lt)]
    exact Heap.get?_push_of_some _ q
  · rw [pk.length_eq, List.length_map, Array.length_toList]; exact hn
end
/-- set(xs), xs a list of ints -/
def rSetL (K : PySem.W.Frag) (w : World) : List V → Hp → VK → Prop := fun vs H Q => ∃ (a : Addr) (ns : List Int), vs = [V.ref a] ∧ SqL K H a (ns.map V.int) ∧ ns.length + 1 < 4096 ∧
  ∀ (p : Addr) (c : Nat), H p = none → c ≤ ns.length → Q (.ref p) (upd H p (SetO w p (fun j => decide (j ∈ ns)) c))
theorem cr_setL {X : Cx} (hc : X.calm = true) : CallR X (.type "set") (rSetL X.K X.w) := by
  intro pins s σ H vs us Q I r h
  obtain ⟨a, ns, rfl, hs, hn, q⟩ := h
  obtain ⟨its, rv, hl, hz⟩ := I.list hs
  rw [Vals.ref1 r]
  refine set_of_list ns (I.ok.hd hc) hl.isList (by simpa using rv.ints) hn fun g tk c z1 z2 z3 => ?_
  exact ⟨.ref _, upd H s.heap.objs.size (SetO X.w s.heap.objs.size (fun j => decide (j ∈ ns)) c), I.laid (t' := tk) z3 (Nat.le_refl _) (setO_new z1), rfl, q _ c (I.hok.fresh (Nat.le_refl _)) z2⟩
def rSortedSetA (w : World) : List V → Hp → VK → Prop := fun vs H Q => ∃ (a : Addr) (S : Int → Bool) (n : Nat), vs = [V.ref a] ∧ H a = some (SetO w a S n) ∧ n ≤ sizeLine ∧
  ∀ (ns : List Int) (p : Addr), ns.Pairwise (· < ·) → (∀ k : Int, k ∈ ns ↔ S k = true) → ns.length = n → H p = none → Q (.ref p) (upd H p (.lst (ns.map V.int)))
theorem cr_sortedSetA {X : Cx} (hc : X.calm = true) : CallR X (.builtin "sorted") (rSortedSetA X.w) := by
  intro pins s σ H vs us Q I r h
  obtain ⟨a, S, n, rfl, ha, hz, q⟩ := h
  rw [Vals.ref1 r]
  refine sorted_of_set (setO_get I ha) (I.ok.hd hc) fun s' p out c ns kp gg go hp hg hi pw mem hn => ?_
  have free : H p = none := I.hok.fresh hp
  have hv : Vals (ns.map V.int) out.toList := vals_of_ints hi
  have J : Inv X pins σ (upd H p (.lst (ns.map V.int))) { s with heap := s'.heap, gens := s'.gens, drawn := s'.drawn, toks := s'.toks } :=
    I.call (ch := []) (Un.laid kp hp free) (I.hok.laid kp hp ⟨by rw [List.length_map]; omega, out.toList, c, hv, hg⟩) (by rw [gg]; exact I.bare) (fun _ z => nomatch z)
  have e : s' = { s with heap := s'.heap, gens := s'.gens, drawn := s'.drawn, toks := s'.toks } := by
    cases s'
    cases s
    cases go
    rfl
  rw [e]
  exact ⟨.ref p, _, J, rfl, q ns p pw mem hn free⟩
/-- sorted(set(xs)) -/
def setSortD : DC := fun ds Q => match ds with
  | [.list xs] => ∃ ns : List Int, xs = ns.map .int ∧ ns.length + 1 < 4096 ∧ ∀ ms : List Int, ms.Pairwise (· < ·) → (∀ k, k ∈ ms ↔ k ∈ ns) → ms.length ≤ ns.length → Q (.list (ms.map .int))
  | _ => False
theorem lift_setSort {K : PySem.W.Frag} {c : Ct} {w : World} {ml : DTA} {n : Nat} {σ : St} {H : Hp} {Q : VK} (h : liftE K c (dB setSortD ml) σ H Q) : tCB (rSortedSetA w) (tCons (tCB (rSetL K w) (liftA K c n ml)) tNil) σ H Q := by
  obtain ⟨F, en, R, r, h, k⟩ := h
  refine ⟨F, en, _, r, h, fun ds hd vs F1 H1 x1 rv _ => ?_⟩
  unfold setSortD at hd
  split at hd
  · obtain ⟨ns, rfl, hn, hd⟩ := hd
    obtain ⟨v, rfl, r1⟩ := rv.one
    obtain ⟨a, ys, rfl, g1, g2, g3⟩ := r1.lstI
    have e2 := g2.ints_inv
    subst e2
    refine ⟨a, ns, rfl, SqL.of (x1.fh _ _ g1), hn, fun p cnt hp hc => ?_⟩
    have hs : sizeLine = 9223372036854775807 / 8 ∨ True := .inr trivial
    refine ⟨p, _, cnt, rfl, upd_same, by have : 4096 ≤ sizeLine := by decide
                                         omega, fun ms l pw mem hl hl0 => ?_⟩
    have x2 : Ext c.wo F1 H1 F1 (upd H1 p (SetO w p (fun j => decide (j ∈ ns)) cnt)) := by
      have keep : ∀ b o, H1 b = some o → upd H1 p (SetO w p (fun j => decide (j ∈ ns)) cnt) b = some o := fun b o e => by
        rw [upd_ne (fun z => by subst z; rw [hp] at e; cases e)]
        exact e
      exact ⟨fun _ _ e => e, fun b o e => keep b o (x1.fh b o e), fun b o e _ => keep b o e, fun _ _ e z => (by rw [z] at e; cases e), fun q hq => (x1.wk q hq).keep (keep _) (keep _)⟩
    have fl : upd H1 p (SetO w p (fun j => decide (j ∈ ns)) cnt) l = none := hl0
    have hr : Reps K F1 (ms.map V.int) (ms.map .int) := by
      clear pw mem hl
      induction ms with
      | nil => exact .nil
      | cons m ms ih => exact .cons (.int _) ih
    have hz : (ms.map PyData.int).length ≤ sizeLine := by
      rw [List.length_map]
      have : 4096 ≤ sizeLine := by decide
      omega
    obtain ⟨y1, y2⟩ := newLst x2.self fl hr hz
    exact k _ (hd ms pw (fun i => by rw [mem i, decide_eq_true_eq]) (by omega)) _ _ _ (x1.trans (x2.trans y1)) y2
  · exact hd.elim
theorem de_setSort {X : Cx} {c : Ct} {a : Expr} {ml : DTA} {p p2 pos q : Pos} (hc : X.calm = true) (hm : X.mg "sorted" = none) (hm2 : X.mg "set" = none) (ha : DA X c [a] ml) (hg : Gl X "sorted" := by rfl) (hg2 : Gl X "set" := by rfl)
    (he : starEach [a] X.env = (false, eval a X.env) :: starEach [] X.env := by rfl) (hpl : (backTo q (starEach [] X.env)).any (·.1) = false := by rfl)
    (he2 : starEach [.Call (.Name "set" p2) [a] [] q] X.env = (false, eval (.Call (.Name "set" p2) [a] [] q) X.env) :: starEach [] X.env := by rfl) (hpl2 : (backTo pos (starEach [] X.env)).any (·.1) = false := by rfl) :
    DE X c (.Call (.Name "sorted" p) [.Call (.Name "set" p2) [a] [] q] [] pos) (dB setSortD ml) :=
  ⟨PE.imp (pe_callB (cr_sortedSetA hc) hg hm boot_sorted (pa_cons (pe_callTy (cr_setL hc) hg2 hm2 boot_set ha.run (by decide) (by decide) he hpl) pa_nil he2) (by decide) (by decide) he2 hpl2) fun _ _ _ h => lift_setSort h⟩
end Lay
namespace Lay
open PySem PySem.Spec L2
open PyProof.Rows hiding St
def rInDict (neg : Bool) : R2 := fun x y H Q => ∃ a o, y = .ref a ∧ DGet H a x o ∧ Q (.bl (if neg then !o.isSome else o.isSome)) H
section
variable {X : Cx}
theorem op_inDict (hu : X.A.units + 64 < cLine) : OpR X (compareOp .In) (rInDict false) := by
  intro pins s σ H x y v u Q I rx ry h
  obtain ⟨a, o, rfl, g, q⟩ := h
  cases ry
  exact d_in (Nat.lt_of_le_of_lt (Nat.add_le_add_left (by decide) _) hu) I g rx fun s' I' => ⟨.bl _, H, I', rfl, q⟩
theorem op_notInDict (hu : X.A.units + 64 < cLine) : OpR X (compareOp .NotIn) (rInDict true) := by
  intro pins s σ H x y v u Q I rx ry h
  obtain ⟨a, o, rfl, g, q⟩ := h
  cases ry
  exact d_notIn (Nat.lt_of_le_of_lt (Nat.add_le_add_left (by decide) _) hu) I g rx fun s' I' => ⟨.bl _, H, I', rfl, q⟩
end
def hasK (kvs : List (Key × D)) (k : Key) : Bool := kvs.any fun kv => decide (kv.1 = k)
def keyIn (kvs : List (Key × D)) (d : D) (Q : Bool → Prop) : Prop := match d with
  | .int n => Q (hasK kvs (.inl n))
  | _ => False
/-- k in x, x a dict of the def's own -/
def dInO (neg : Bool) (i : Nat) (m : DTE) (en : En) (Q : D → Prop) : Prop := m en fun d => onDic (gt en i) fun kvs => keyIn kvs d fun b => Q (.bool (if neg then !b else b))
theorem KReps.has {K : PySem.W.Frag} {F : Hp} {k : Key} : ∀ {vs : List (Key × V)} {ds : List (Key × D)}, KReps K F vs ds → (vs.any fun kv => decide (kv.1 = k)) = hasK ds k
  | _, _, .nil => rfl
  | _, _, .cons r t => by
    unfold hasK
    rw [List.any_cons, List.any_cons, t.has]
    rfl
theorem lift_inO {K : PySem.W.Frag} {c : Ct} {neg : Bool} {i : Nat} {ma : DTE} {σ : St} {H : Hp} {Q : VK} (h : liftE K c (dInO neg i ma) σ H Q) : tOp (rInDict neg) (liftE K c ma) (tVar i) σ H Q := by
  obtain ⟨F, en, R, r, h, k⟩ := h
  refine ⟨F, en, _, r, h, fun d hd v F1 H1 x1 rv => ?_⟩
  unfold onDic at hd
  split at hd
  · rename_i kvs hg
    have r1 := r.grow x1
    obtain ⟨ov, e1, a, vs, e2, e3, e4, e5⟩ := r1.sl i _ (gt_get hg (fun z => nomatch z))
    subst e2
    unfold keyIn at hd
    split at hd
    · rename_i n
      cases rv
      refine ⟨.ref a, e1, a, _, rfl, DGet.k (k := .inl n) e3, ?_⟩
      rw [← valV_any, e4.has]
      exact k _ hd _ F1 H1 x1 (.bl _)
    · exact hd.elim
  · exact hd.elim
section
variable {X : Cx} {c : Ct} {a : Expr} {ma : DTE} {pos : Pos}
theorem de_inO (hu : X.A.units + 64 < cLine) (i : Nat) {x : Str} {px : Pos} (ha : DE X c a ma) (hN : X.N[i]? = some x := by rfl) (hv : Vis X.env.scope x := by first | exact Or.inl rfl | exact Or.inr (Or.inl rfl) | exact Or.inr (Or.inr rfl)) (hd : (x == ("__debug__" : Str)) = false := by decide) (hcd : (x == ("__classdict__" : Str)) = false := by decide) (hm : behindInMarks .In (.Name x px) = false := by rfl) :
    DE X c (.Compare a [.In] [.Name x px] pos) (dInO false i ma) := ⟨PE.imp (pe_cmpR (op_inDict hu) ha.run (pe_var hN hv hd hcd) hm) fun _ _ _ h => lift_inO h⟩
theorem dt_inO (hu : X.A.units + 64 < cLine) (i : Nat) {x : Str} {px : Pos} (ha : DE X c a ma) (hN : X.N[i]? = some x := by rfl) (hv : Vis X.env.scope x := by first | exact Or.inl rfl | exact Or.inr (Or.inl rfl) | exact Or.inr (Or.inr rfl)) (hd : (x == ("__debug__" : Str)) = false := by decide) (hcd : (x == ("__classdict__" : Str)) = false := by decide) (hm : behindInMarks .In (.Name x px) = false := by rfl) :
    DT X c (.Compare a [.In] [.Name x px] pos) (dT (dInO false i ma)) := ⟨PT.imp (pt_cmpR (op_inDict hu) ha.run (pe_var hN hv hd hcd) hm) fun _ _ _ h => lift_inO (lift_test h)⟩
theorem de_notInO (hu : X.A.units + 64 < cLine) (i : Nat) {x : Str} {px : Pos} (ha : DE X c a ma) (hN : X.N[i]? = some x := by rfl) (hv : Vis X.env.scope x := by first | exact Or.inl rfl | exact Or.inr (Or.inl rfl) | exact Or.inr (Or.inr rfl)) (hd : (x == ("__debug__" : Str)) = false := by decide) (hcd : (x == ("__classdict__" : Str)) = false := by decide) (hm : behindInMarks .NotIn (.Name x px) = false := by rfl) :
    DE X c (.Compare a [.NotIn] [.Name x px] pos) (dInO true i ma) := ⟨PE.imp (pe_cmpR (op_notInDict hu) ha.run (pe_var hN hv hd hcd) hm) fun _ _ _ h => lift_inO h⟩
theorem dt_notInO (hu : X.A.units + 64 < cLine) (i : Nat) {x : Str} {px : Pos} (ha : DE X c a ma) (hN : X.N[i]? = some x := by rfl) (hv : Vis X.env.scope x := by first | exact Or.inl rfl | exact Or.inr (Or.inl rfl) | exact Or.inr (Or.inr rfl)) (hd : (x == ("__debug__" : Str)) = false := by decide) (hcd : (x == ("__classdict__" : Str)) = false := by decide) (hm : behindInMarks .NotIn (.Name x px) = false := by rfl) :
    DT X c (.Compare a [.NotIn] [.Name x px] pos) (dT (dInO true i ma)) := ⟨PT.imp (pt_cmpR (op_notInDict hu) ha.run (pe_var hN hv hd hcd) hm) fun _ _ _ h => lift_inO (lift_test h)⟩
end
def putD (kvs : List (Key × D)) (k : Key) (d : D) : List (Key × D) := if hasK kvs k = true then kvs.map (fun kv => if kv.1 = k then (kv.1, d) else kv) else kvs ++ [(k, d)]
theorem KReps.append {K : PySem.W.Frag} {F : Hp} : ∀ {vs us : List (Key × V)} {ds es : List (Key × D)}, KReps K F vs ds → KReps K F us es → KReps K F (vs ++ us) (ds ++ es)
  | _, _, _, _, .nil, h => h
  | _, _, _, _, .cons r t, h => .cons r (t.append h)
theorem KReps.turned {K : PySem.W.Frag} {F : Hp} {k : Key} {v : V} {d : D} (rv : Rep K F v d) : ∀ {vs : List (Key × V)} {ds : List (Key × D)}, KReps K F vs ds → KReps K F (vs.map fun kv => if kv.1 = k then (kv.1, v) else kv) (ds.map fun kv => if kv.1 = k then (kv.1, d) else kv)
  | _, _, .nil => .nil
  | _, _, .cons (k := j) r t => by
    rw [List.map_cons, List.map_cons]
    by_cases z : j = k
    · rw [if_pos z, if_pos z]
      exact .cons rv (t.turned rv)
    · rw [if_neg z, if_neg z]
      exact .cons r (t.turned rv)
theorem KReps.put {K : PySem.W.Frag} {F : Hp} {k : Key} {v : V} {d : D} {vs : List (Key × V)} {ds : List (Key × D)} (h : KReps K F vs ds) (rv : Rep K F v d) : KReps K F (putK vs k v) (putD ds k d) := by
  unfold putK putD
  rw [h.has]
  split
  · exact h.turned rv
  · exact h.append (.cons rv .nil)
theorem hasK_put (kvs : List (Key × D)) (k j : Key) (d : D) : hasK (putD kvs k d) j = (hasK kvs j || decide (k = j)) := by
  unfold putD
  split
  · rename_i hk
    have e : hasK (kvs.map fun kv => if kv.1 = k then (kv.1, d) else kv) j = hasK kvs j := by
      unfold hasK
      rw [List.any_map]
      congr 1
      funext kv
      by_cases z : kv.1 = k
      · simp [z]
      · simp [z]
    rw [e]
    by_cases z : k = j
    · subst z
      rw [hk]
      rfl
    · rw [decide_eq_false z, Bool.or_false]
  · unfold hasK
    rw [List.any_append]
    simp
theorem putD_len (kvs : List (Key × D)) (k : Key) (d : D) : (putD kvs k d).length ≤ kvs.length + 1 := by
  unfold putD
  split
  · rw [List.length_map]; omega
  · rw [List.length_append]; simp
def mergeD (kvs : List (Key × D)) (more : List (Int × D)) : List (Key × D) := more.foldl (fun acc p => putD acc (.inl p.1) p.2) kvs
theorem hasK_merge (j : Int) : ∀ (more : List (Int × D)) (kvs : List (Key × D)), hasK (mergeD kvs more) (.inl j) = (hasK kvs (.inl j) || decide (j ∈ more.map (·.1)))
  | [], kvs => by simp [mergeD]
  | p :: more, kvs => by
    show hasK (mergeD (putD kvs (.inl p.1) p.2) more) (.inl j) = _
    rw [hasK_merge j more, hasK_put, List.map_cons]
    by_cases z : j = p.1
    · subst z; simp
    · have z1 : ¬ (Sum.inl p.1 : Key) = Sum.inl j := fun e => z (Sum.inl.inj e).symm
      rw [decide_eq_false z1, Bool.or_false]
      congr 1
      exact decide_eq_decide.mpr ⟨fun m => List.mem_cons_of_mem _ m, fun m => (List.mem_cons.mp m).resolve_left z⟩
theorem mergeD_len : ∀ (more : List (Int × D)) (kvs : List (Key × D)), (mergeD kvs more).length ≤ kvs.length + more.length
  | [], kvs => Nat.le_refl _
  | p :: more, kvs => by
    have h1 := mergeD_len more (putD kvs (.inl p.1) p.2)
    have h2 := putD_len kvs (.inl p.1) p.2
    show (mergeD (putD kvs (.inl p.1) p.2) more).length ≤ _
    rw [List.length_cons]
    omega
def pairD2 (p : Int × D) : D := .tuple [.int p.1, p.2]
theorem pairs_rep {K : PySem.W.Frag} {F H : Hp} (hF : ∀ a o, F a = some o → H a = some o) : ∀ {ys : List V} {ps : List (Int × D)}, Reps K F ys (ps.map pairD2) → ∃ (as : List Addr) (kvs : List (Key × V)), ys = as.map V.ref ∧ Paired (fun p kv => SqT K H p [kV kv.1, kv.2]) as kvs ∧
    ∀ vs ds, KReps K F vs ds → KReps K F (mergeK vs kvs) (mergeD ds ps)
  | ys, [], h => by
    cases h
    exact ⟨[], [], rfl, .nil, fun vs ds h => h⟩
  | ys, p :: ps, h => by
    cases h with
    | cons h1 h2 =>
      obtain ⟨as, kvs, e1, e2, e3⟩ := pairs_rep hF h2
      obtain ⟨t, xs, e, s1, s2, _⟩ := h1.tupI
      obtain ⟨v, u, rfl, q1, q2⟩ := s2.two
      cases q1
      subst e
      refine ⟨t :: as, (.inl p.1, u) :: kvs, by rw [e1]; rfl, .cons (sqT_mono hF s1) e2, fun vs ds h => ?_⟩
      show KReps K F (mergeK (putK vs (.inl p.1) u) kvs) (mergeD (putD ds (.inl p.1) p.2) ps)
      exact e3 _ _ (h.put q2)
def pairsD (ds : List D) (Q : List (Int × D) → Prop) : Prop := match ds with
  | [.list es] => ∃ ps : List (Int × D), es = ps.map pairD2 ∧ Q ps
  | _ => False
/-- x = dict(pairs) : the def's own dict -/
def dDictO (i : Nat) (ml : DTA) (R : DEnds) (en : En) : Prop := ml en fun ds => pairsD ds fun ps => ∀ kvs : List (Key × D), (∀ j : Int, hasK kvs (.inl j) = decide (j ∈ ps.map (·.1))) → R.nx (en.set i (.dic kvs))
theorem sdictO {X : Cx} {c : Ct} {a : Expr} {ml : DTA} {pos : Pos} (i : Nat) {x : Str} {p pos' spos : Pos} (hc : X.calm = true) (hm : X.mg "dict" = none) (hN : X.N.Nodup) (ha : DA X c [a] ml) (hg : Gl X "dict" := by rfl) (hi : X.N[i]? = some x := by rfl) (hx : Loc X.env.scope x := by first | exact Or.inl rfl | exact Or.inr rfl)
    (hs : swapsWith (.Call (.Name "dict" p) [a] [] pos) (some (.Name x pos')) spos.line X.env = pure false := by rfl)
    (he : starEach [a] X.env = (false, eval a X.env) :: starEach [] X.env := by rfl) (hpl : (backTo pos (starEach [] X.env)).any (·.1) = false := by rfl) (hf : X.fn x = true ∨ X.env.scope.names.lookup x = some .local := by first | exact .inl rfl | exact .inr rfl | assumption) :
    DS X c (.Assign [.Name x pos'] (.Call (.Name "dict" p) [a] [] pos) spos) (dDictO i ml) := by
  refine ⟨PS.imp (ps_set (i := i) hN hi hx (pe_callTy (call_dictP hc) hg hm PyProof.Rows.boot_dict ha.run (by decide) (by decide) he hpl) hs hf) fun D σ H h => ?_⟩
  obtain ⟨F, en, R, r, h, k⟩ := h
  refine ⟨F, en, _, r, h, fun ds hd vs F' H' x rv _ => ?_⟩
  unfold pairsD at hd
  split at hd
  · obtain ⟨ps, rfl, hd⟩ := hd
    obtain ⟨v, rfl, r1⟩ := rv.one
    obtain ⟨l, ys, rfl, g1, g2, g3⟩ := r1.lstI
    obtain ⟨as, kvs, e1, e2, e3⟩ := pairs_rep x.fh g2
    subst e1
    refine ⟨l, as, kvs, rfl, SqL.of (x.fh _ _ g1), e2, fun q hq => ?_⟩
    have hk := e3 [] [] .nil
    refine k.nx _ _ F' _ (hd (mergeD [] ps) fun j => by rw [hasK_merge]; rfl) ((r.grow x).setO hq ⟨q, mergeK [] kvs, rfl, upd_same, hk, ?_⟩) x.ff
    have := mergeD_len ps []
    rw [List.length_map] at g3
    rw [List.length_nil, Nat.zero_add] at this
    exact Nat.le_trans this g3
  · exact hd.elim
end Lay
namespace Lay
open PySem PySem.Spec L2
open PyProof.Rows hiding St
section
variable {P : Program} {w : World} {A : Around} {E : Value → Shared → Prop} {s : Shared} {l : Addr} {vs : Array Value}
theorem iter_tupA {Q : Value → Shared → Prop} (hl : s.heap.IsTuple l vs)
    (k : ∀ s₂ : Shared, s₂ = { s with heap := s.heap.push { cls := .type "tuple_iterator", data := .fields #[.ref l, .int 0 0] } } →
      (s₂.heap.IsTupleIter s.heap.objs.size l 0 ∧ s₂.heap.IsTuple l vs) → (∀ b ∈ [s.heap.objs.size, l], b < s₂.heap.objs.size) → l ≠ s.heap.objs.size → Q (.ref s.heap.objs.size) s₂) :
    wpAny (model P w) A (pyIter (.ref l)) Q E s := by
  have lt : l < s.heap.objs.size := by
    obtain ⟨_, e, _⟩ := hl
    exact Heap.lt_size e
  refine wpAny_pyIter_tuple hl (k _ rfl ⟨⟨_, Heap.get?_push_size _ rfl, rfl, rfl⟩, hl.push _⟩ (fun b m => ?_) (Nat.ne_of_lt lt))
  show b < (s.heap.push _).objs.size
  rw [Heap.size_push]
  rcases List.mem_cons.mp m with rfl | m
  · exact Nat.lt_succ_self _
  · rw [List.mem_singleton.mp m]
    exact Nat.lt_succ_of_lt lt
theorem max_tup3 {Q : Value → Shared → Prop} {a b c : Int} {ta tb tc : Tok} (hA : A.handled = none) (hl : s.heap.IsTuple l #[.int a ta, .int b tb, .int c tc])
    (k : ∀ g tk m u, (∀ d o, s.heap.get? d = some o → g.get? d = some o) → m = max (max a b) c → Q (.int m u) { s with heap := g, toks := tk }) :
    wpAny (model P w) A (call (.builtin "max") [.ref l]) Q E s := by
  refine call_max_walk (iter_tupA hl fun s₂ e st lt ne => ?_)
  subst e
  refine ⟨_, _, _, _, _, _, _, rfl, Walks.tuple (A := A.in1) hA _ l ne #[.int a ta, .int b tb, .int c tc], st, lt, by simp, Flt.cmpOf_gt #[.int a ta, .int b tb, .int c tc] (by simp [Flt.NumV.int]), fun v g tk hP kk => ?_⟩
  have ab : Flt.ltV (.int a ta) (.int b tb) = decide (a < b) := rfl
  have ac : Flt.ltV (.int a ta) (.int c tc) = decide (a < c) := rfl
  have bc : Flt.ltV (.int b tb) (.int c tc) = decide (b < c) := rfl
  have hv : ∃ m u, v = .int m u ∧ m = max (max a b) c := by
    by_cases h1 : a < b
    · by_cases h2 : b < c <;> simp [argBest, ab, ac, bc, h1, h2] at hP <;> subst hP <;> exact ⟨_, _, rfl, by omega⟩
    · by_cases h2 : a < c <;> simp [argBest, ab, ac, bc, h1, h2] at hP <;> subst hP <;> exact ⟨_, _, rfl, by omega⟩
  obtain ⟨m, u, rfl, hm⟩ := hv
  refine k g tk m u (fun d o e => kk d o (fun m => ?_) (Heap.get?_push_of_some _ e)) hm
  exact Nat.ne_of_lt (Heap.lt_size e) (List.mem_singleton.mp m)
theorem min_tup3 {Q : Value → Shared → Prop} {a b c : Int} {ta tb tc : Tok} (hA : A.handled = none) (hl : s.heap.IsTuple l #[.int a ta, .int b tb, .int c tc])
    (k : ∀ g tk m u, (∀ d o, s.heap.get? d = some o → g.get? d = some o) → m = min (min a b) c → Q (.int m u) { s with heap := g, toks := tk }) :
    wpAny (model P w) A (call (.builtin "min") [.ref l]) Q E s := by
  refine call_min_walk (iter_tupA hl fun s₂ e st lt ne => ?_)
  subst e
  refine ⟨_, _, _, _, _, _, _, rfl, Walks.tuple (A := A.in1) hA _ l ne #[.int a ta, .int b tb, .int c tc], st, lt, by simp, Flt.cmpOf_lt #[.int a ta, .int b tb, .int c tc] (by simp [Flt.NumV.int]), fun v g tk hP kk => ?_⟩
  have ba : Flt.ltV (.int b tb) (.int a ta) = decide (b < a) := rfl
  have ca : Flt.ltV (.int c tc) (.int a ta) = decide (c < a) := rfl
  have cb : Flt.ltV (.int c tc) (.int b tb) = decide (c < b) := rfl
  have hv : ∃ m u, v = .int m u ∧ m = min (min a b) c := by
    by_cases h1 : b < a
    · by_cases h2 : c < b <;> simp [argBest, ba, ca, cb, h1, h2] at hP <;> subst hP <;> exact ⟨_, _, rfl, by omega⟩
    · by_cases h2 : c < a <;> simp [argBest, ba, ca, cb, h1, h2] at hP <;> subst hP <;> exact ⟨_, _, rfl, by omega⟩
  obtain ⟨m, u, rfl, hm⟩ := hv
  refine k g tk m u (fun d o e => kk d o (fun m => ?_) (Heap.get?_push_of_some _ e)) hm
  exact Nat.ne_of_lt (Heap.lt_size e) (List.mem_singleton.mp m)
end
def rBest3 (K : PySem.W.Frag) (f : Int → Int → Int → Int) : List V → Hp → VK → Prop := fun vs H Q => ∃ (p : Addr) (a b c : Int), vs = [.ref p] ∧ SqT K H p [.int a, .int b, .int c] ∧ Q (.int (f a b c)) H
theorem three_vals {vs : List Value} {a b c : Int} (r : Vals [.int a, .int b, .int c] vs) : ∃ ta tb tc, vs = [.int a ta, .int b tb, .int c tc] := by
  obtain ⟨u1, u2, u3, rfl, ⟨ta, rfl⟩, ⟨tb, rfl⟩, ⟨tc, rfl⟩⟩ := vals3 r
  exact ⟨_, _, _, rfl⟩
theorem cr_max3 {X : Cx} (hc : X.calm = true) : CallR X (.builtin "max") (rBest3 X.K fun a b c => max (max a b) c) := by
  intro pins s σ H vs us Q I r h
  obtain ⟨p, a, b, c, rfl, hs, q⟩ := h
  obtain ⟨its, rv, hl, _⟩ := I.tuple hs
  rw [Vals.ref1 r]
  obtain ⟨ta, tb, tc, rfl⟩ := three_vals rv
  refine max_tup3 (I.ok.hd hc) hl fun g tk m u k hm => ⟨.int m, H, I.kept k, ⟨u, rfl⟩, by subst hm; exact q⟩
theorem cr_min3 {X : Cx} (hc : X.calm = true) : CallR X (.builtin "min") (rBest3 X.K fun a b c => min (min a b) c) := by
  intro pins s σ H vs us Q I r h
  obtain ⟨p, a, b, c, rfl, hs, q⟩ := h
  obtain ⟨its, rv, hl, _⟩ := I.tuple hs
  rw [Vals.ref1 r]
  obtain ⟨ta, tb, tc, rfl⟩ := three_vals rv
  refine min_tup3 (I.ok.hd hc) hl fun g tk m u k hm => ⟨.int m, H, I.kept k, ⟨u, rfl⟩, by subst hm; exact q⟩
def best3D (f : Int → Int → Int → Int) : DC := fun ds Q => match ds with | [.tuple [.int a, .int b, .int c]] => Q (.int (f a b c)) | _ => False
def maxD : DC := best3D fun a b c => max (max a b) c
def minD : DC := best3D fun a b c => min (min a b) c
theorem sv_best3 {K : PySem.W.Frag} {c : Ct} {f : Int → Int → Int → Int} : ServesC K c (rBest3 K f) (best3D f) := by
  intro F H vs ds R Q ex rv h k
  unfold best3D at h
  split at h
  · obtain ⟨v, rfl, r1⟩ := rv.one
    obtain ⟨p, ys, e, g1, g2, g3⟩ := r1.tupI
    subst e
    obtain ⟨x, y, z, rfl, q1, q2, q3⟩ := g2.three
    cases q1; cases q2; cases q3
    exact ⟨p, _, _, _, rfl, sqT_mono ex.fh g1, k _ h _ F H ex (.int _)⟩
  · exact h.elim
section
variable {X : Cx} {c : Ct} {a : Expr} {ml : DTA} {pos : Pos}
theorem de_max1 {p : Pos} (hc : X.calm = true) (hg : Gl X "max") (hm : X.mg "max" = none) (ha : DA X c [a] ml) (he : starEach [a] X.env = (false, eval a X.env) :: starEach [] X.env := by rfl) (hpl : (backTo pos (starEach [] X.env)).any (·.1) = false := by rfl) : DE X c (.Call (.Name "max" p) [a] [] pos) (dB maxD ml) :=
  de_callB (cr_max3 hc) sv_best3 hg hm boot_max ha (by decide) (by decide) he hpl
theorem de_min1 {p : Pos} (hc : X.calm = true) (hg : Gl X "min") (hm : X.mg "min" = none) (ha : DA X c [a] ml) (he : starEach [a] X.env = (false, eval a X.env) :: starEach [] X.env := by rfl) (hpl : (backTo pos (starEach [] X.env)).any (·.1) = false := by rfl) : DE X c (.Call (.Name "min" p) [a] [] pos) (dB minD ml) :=
  de_callB (cr_min3 hc) sv_best3 hg hm boot_min ha (by decide) (by decide) he hpl
end
end Lay
namespace Lay
open PySem PySem.Spec L2
open PyProof.Rows hiding St
/-- x = {} -/
def dNewO (i : Nat) (R : DEnds) (en : En) : Prop := R.nx (en.set i (.dic []))
theorem snewO {X : Cx} {c : Ct} {pos : Pos} (i : Nat) {x : Str} {pos' spos : Pos} (hN : X.N.Nodup) (hi : X.N[i]? = some x := by rfl) (hx : Loc X.env.scope x := by first | exact Or.inl rfl | exact Or.inr rfl)
    (hs : swapsWith (.Dict [] [] pos) (some (.Name x pos')) spos.line X.env = pure false := by rfl) (hf : X.fn x = true ∨ X.env.scope.names.lookup x = some .local := by first | exact .inl rfl | exact .inr rfl | assumption) :
    DS X c (.Assign [.Name x pos'] (.Dict [] [] pos) spos) (dNewO i) := by
  refine ⟨PS.imp (ps_set (i := i) hN hi hx pe_dnewK hs hf) fun D σ H h => ?_⟩
  obtain ⟨F, en, R, r, h, k⟩ := h
  exact fun p hp => k.nx _ _ F _ h (r.setO hp ⟨p, [], rfl, upd_same, .nil, Nat.zero_le _⟩) fun _ _ e => e
theorem KReps.keys {K : PySem.W.Frag} {F : Hp} : ∀ {vs : List (Key × V)} {ds : List (Key × D)}, KReps K F vs ds → vs.map (·.1) = ds.map (·.1)
  | _, _, .nil => rfl
  | _, _, .cons r t => by rw [List.map_cons, List.map_cons, t.keys]
theorem KReps.len {K : PySem.W.Frag} {F : Hp} {vs : List (Key × V)} {ds : List (Key × D)} (h : KReps K F vs ds) : vs.length = ds.length := by
  have e := congrArg List.length h.keys
  rw [List.length_map, List.length_map] at e
  exact e
def putKD (d : D) (kvs : List (Key × D)) (v : D) (Q : List (Key × D) → Prop) : Prop := match d with
  | .int n => kvs.length < 4096 ∧ Q (putD kvs (.inl n) v)
  | _ => False
theorem putKD_int {n : Int} {kvs : List (Key × D)} {v : D} {Q : List (Key × D) → Prop} : putKD (.int n) kvs v Q = (kvs.length < 4096 ∧ Q (putD kvs (.inl n) v)) := rfl
/-- x[k] = v -/
def dPutO (i : Nat) (mk mv : DTE) (R : DEnds) (en : En) : Prop := mv en fun v => onDic (gt en i) fun kvs => mk en fun k => putKD k kvs v fun kvs => R.nx (en.set i (.dic kvs))
theorem sputO {X : Cx} {c : Ct} {e b : Expr} {mk mv : DTE} {pos : Pos} (hu : X.A.units + 64 < cLine) (i : Nat) {x : Str} {px p2 : Pos} (hk : DE X c b mk) (hv : DE X c e mv) (hN : X.N[i]? = some x := by rfl) (hvis : Vis X.env.scope x := by first | exact Or.inl rfl | exact Or.inr (Or.inl rfl) | exact Or.inr (Or.inr rfl)) (hd : (x == ("__debug__" : Str)) = false := by decide) (hcd : (x == ("__classdict__" : Str)) = false := by decide)
    (hs : swapsWith e (some (.Subscript (.Name x px) b p2)) pos.line X.env = pure false := by rfl) :
    DS X c (.Assign [.Subscript (.Name x px) b p2] e pos) (dPutO i mk mv) := by
  refine ⟨PS.imp (ps_dput (Nat.lt_of_le_of_lt (Nat.add_le_add_left (by decide) _) hu) (pe_var hN hvis hd hcd) hk.run hv.run hs) fun D σ H h => ?_⟩
  obtain ⟨F, en, R, r, h, k⟩ := h
  refine ⟨F, en, _, r, h, fun d hd v F1 H1 x1 rv => ?_⟩
  unfold onDic at hd
  split at hd
  · rename_i kvs hg
    have hen := gt_get hg (fun z => nomatch z)
    have g := r.grow x1
    obtain ⟨ov, e1, p, vs, e2, e3, e4, e5⟩ := g.sl i _ hen
    subst e2
    refine ⟨_, e1, F1, en, _, g, hd, fun kd hk kv F2 H2 x2 rk => ?_⟩
    cases kd with
    | int n =>
      cases rk
      obtain ⟨hl, hk⟩ := hk
      have g2 := g.grow x2
      have ha : ownAt σ en i p := ⟨e1, _, hen, rfl⟩
      obtain ⟨ov', e1', p', vs', e2', e3', e4', e5'⟩ := g2.sl i _ hen
      subst e2'
      rw [e1] at e1'
      cases e1'
      have rv' := Rep.mono x2.ff _ _ rv
      have hn : vs'.length < sizeLine := by
        rw [e4'.len]
        exact Nat.lt_of_lt_of_le hl (by decide)
      refine ⟨p, _, rfl, DPut.k (k := .inl n) e3' hn, ?_⟩
      refine k.nx _ _ F2 _ hk (g2.turn ha ⟨p, _, rfl, upd_same, e4'.put rv', ?_⟩) (fun b o q => x2.ff _ _ (x1.ff _ _ q))
      have := putD_len kvs (.inl n) d
      have : 4097 ≤ sizeLine := by decide
      omega
    | _ => exact False.elim hk
  · exact hd.elim
/-- sorted(x) -/
def dSortedO (i : Nat) (en : En) (Q : D → Prop) : Prop := onDic (gt en i) fun kvs => ∃ ks : List Int, kvs.map (·.1) = ks.map Sum.inl ∧ ks.length < 64 ∧ ∀ ys : List Int, ys.Perm ks → ys.Pairwise (· ≤ ·) → Q (.list (ys.map .int))
theorem de_sortedO {X : Cx} {c : Ct} {pos : Pos} (i : Nat) {x : Str} {p px : Pos} (hc : X.calm = true) (hm : X.mg "sorted" = none) (hg : Gl X "sorted" := by rfl) (hN : X.N[i]? = some x := by rfl) (hv : Vis X.env.scope x := by first | exact Or.inl rfl | exact Or.inr (Or.inl rfl) | exact Or.inr (Or.inr rfl)) (hd : (x == ("__debug__" : Str)) = false := by decide) (hcd : (x == ("__classdict__" : Str)) = false := by decide)
    (he : starEach [.Name x px] X.env = (false, eval (.Name x px) X.env) :: starEach [] X.env := by rfl) (hpl : (backTo pos (starEach [] X.env)).any (·.1) = false := by rfl) : DE X c (.Call (.Name "sorted" p) [.Name x px] [] pos) (dSortedO i) := by
  refine ⟨PE.imp (pe_callB (call_sortedDI hc) hg hm boot_sorted (pa_cons (pe_var hN hv hd hcd) pa_nil he) (by decide) (by decide) he hpl) fun σ H Q h => ?_⟩
  obtain ⟨F, en, R, r, h, k⟩ := h
  unfold dSortedO onDic at h
  split at h
  · rename_i kvs hg
    obtain ⟨ov, e1, p, vs, e2, e3, e4, e5⟩ := r.sl i _ (gt_get hg (fun z => nomatch z))
    subst e2
    obtain ⟨ks, hk, h64, hd⟩ := h
    refine ⟨_, e1, p, vs, ks, rfl, .inl e3, e4.keys.trans hk, h64, fun ys l hp hw hl => ?_⟩
    have hr : Reps X.K F (ys.map V.int) (ys.map .int) := by
      clear hp hw
      induction ys with
      | nil => exact .nil
      | cons m ms ih => exact .cons (.int _) ih
    have hz : (ys.map PyData.int).length ≤ sizeLine := by
      rw [List.length_map, hp.length_eq]
      have : 64 ≤ sizeLine := by decide
      omega
    obtain ⟨y1, y2⟩ := newLst r.ext.self hl hr hz
    exact k _ (hd ys hp hw) _ _ _ y1 y2
  · exact h.elim
end Lay
namespace Lay
open PySem PySem.Spec L2
open PyProof.Rows hiding St
def par3O (i j l : Nat) (ds : List D) (en : En) (Q : En → Prop) : Prop := match ds with | [d, e] => Q (((en.set i (.own [])).set j (.val d)).set l (.val e)) | _ => False
theorem par3O_two {i j l : Nat} {d e : D} {en : En} {Q : En → Prop} : par3O i j l [d, e] en Q = Q (((en.set i (.own [])).set j (.val d)).set l (.val e)) := rfl
def dPar3O (i j l : Nat) (ml : DTA) (R : DEnds) (en : En) : Prop := ml en fun ds => par3O i j l ds en R.nx
def parO2 (i j : Nat) (ds : List D) (en : En) (Q : En → Prop) : Prop := match ds with | [d] => Q ((en.set i (.val d)).set j (.own [])) | _ => False
theorem parO2_one {i j : Nat} {d : D} {en : En} {Q : En → Prop} : parO2 i j [d] en Q = Q ((en.set i (.val d)).set j (.own [])) := rfl
def dParO2 (i j : Nat) (ml : DTA) (R : DEnds) (en : En) : Prop := ml en fun ds => parO2 i j ds en R.nx
section
variable {X : Cx} {c : Ct} {a b d : Expr} {ml : DTA} {pos : Pos}
theorem spar3O (i j l : Nat) {x y z : Str} {px py pz pt lp : Pos} {kt k2 pt2} (hN : X.N.Nodup) (ha : DA X c [b, d] ml) (hc : X.calm = true := by rfl) (hi : X.N[i]? = some x := by rfl) (hj : X.N[j]? = some y := by rfl) (hl : X.N[l]? = some z := by rfl) (hij : i ≠ j := by decide) (hil : i ≠ l := by decide) (hjl : j ≠ l := by decide)
    (hx : X.env.scope.names.lookup x = some .local := by rfl) (hy : X.env.scope.names.lookup y = some .local := by rfl) (hz : X.env.scope.names.lookup z = some .local := by rfl)
    (hw : swappedStores [.Tuple [.Name x px, .Name y py, .Name z pz] kt pt] (.Tuple [.List [] lp, b, d] k2 pt2) X.env = pure (some [x, y, z]) := by rfl)
    (hs : swapsWithSole [.Tuple [.Name x px, .Name y py, .Name z pz] kt pt] (.Tuple [.List [] lp, b, d] k2 pt2) pos.line X.env = pure false := by rfl)
    (he : starEach [.List [] lp, b, d] X.env = (false, eval (.List [] lp) X.env) :: starEach [b, d] X.env := by rfl) :
    DS X c (.Assign [.Tuple [.Name x px, .Name y py, .Name z pz] kt pt] (.Tuple [.List [] lp, b, d] k2 pt2) pos) (dPar3O i j l ml) := by
  refine ⟨PS.imp (ps_par3 hc hN hi hj hl hij hil hjl hx hy hz (pa_cons (pe_lst pa_nil) ha.run he) hw hs) fun D σ H h => ?_⟩
  obtain ⟨F, en, R, r, h, k⟩ := h
  refine ⟨Nat.zero_le _, fun p hp => ?_⟩
  have fp : F p = none := by
    cases q : F p with
    | none => rfl
    | some u => rw [r.fh _ _ q] at hp; cases hp
  have x1 : Ext c.wo F H F (upd H p (.lst [])) := r.ext.self.poke hp fp (r.ext.wne hp)
  refine ⟨F, en, _, r.grow x1, h, fun ds hd vs F' H' x rv hn => ?_⟩
  unfold par3O at hd
  split at hd
  · obtain ⟨v, u, rfl, r1, r2⟩ := rv.two
    have r0 : SR X.K c F (σ.set i (some (.ref p))) (upd H p (.lst [])) (en.set i (.own [])) := r.setO hp ⟨p, [], rfl, upd_same, .nil, Nat.zero_le _⟩
    exact ⟨.ref p, v, u, rfl, k.nx _ _ F' H' hd (((r0.grow x).set r1).set r2) x.ff⟩
  · exact hd.elim
theorem sparO2 (i j : Nat) {x y : Str} {px py pt lp : Pos} {kt k2 pt2} (hN : X.N.Nodup) (ha : DE X c a ma) (hc : X.calm = true := by rfl) (hi : X.N[i]? = some x := by rfl) (hj : X.N[j]? = some y := by rfl) (hij : i ≠ j := by decide)
    (hx : X.env.scope.names.lookup x = some .local := by rfl) (hy : X.env.scope.names.lookup y = some .local := by rfl)
    (hw : swappedStores [.Tuple [.Name x px, .Name y py] kt pt] (.Tuple [a, .List [] lp] k2 pt2) X.env = pure (some [x, y]) := by rfl)
    (hs : swapsWithSole [.Tuple [.Name x px, .Name y py] kt pt] (.Tuple [a, .List [] lp] k2 pt2) pos.line X.env = pure false := by rfl)
    (he : starEach [a, .List [] lp] X.env = (false, eval a X.env) :: starEach [.List [] lp] X.env := by rfl) (he2 : starEach [.List [] lp] X.env = (false, eval (.List [] lp) X.env) :: starEach [] X.env := by rfl) :
    DS X c (.Assign [.Tuple [.Name x px, .Name y py] kt pt] (.Tuple [a, .List [] lp] k2 pt2) pos) (dParO2 i j (dCons ma dNil)) := by
  refine ⟨PS.imp (ps_par hc hN hi hj hij hx hy (pa_cons ha.run (pa_cons (pe_lst pa_nil) pa_nil he2) he) hw hs) fun D σ H h => ?_⟩
  obtain ⟨F, en, R, r, h, k⟩ := h
  refine ⟨F, en, _, r, h, fun e hd v F1 H1 x rv => ?_⟩
  refine ⟨Nat.zero_le _, fun p hp => ?_⟩
  have r1 := (r.grow x).set (i := i) rv
  have r0 : SR X.K c F1 ((σ.set i (some v)).set j (some (.ref p))) (upd H1 p (.lst [])) ((en.set i (.val e)).set j (.own [])) := r1.setO hp ⟨p, [], rfl, upd_same, .nil, Nat.zero_le _⟩
  exact ⟨v, .ref p, rfl, k.nx _ _ F1 _ hd r0 x.ff⟩
end
end Lay
namespace Lay
open PySem PySem.Spec L2
open PyProof.Rows hiding St
def minLD : DC := fun ds Q => match ds with | [.list xs] => ∃ ns : List Int, xs = ns.map .int ∧ 0 < ns.length ∧ ∀ m, m ∈ ns → (∀ y, y ∈ ns → m ≤ y) → Q (.int m) | _ => False
section
variable {X : Cx} {c : Ct} {a : Expr} {ml : DTA} {pos : Pos}
theorem sv_minL {K : PySem.W.Frag} : ServesC K c (rMin K) minLD := by
  intro F H vs ds R Q ex rv h k
  unfold minLD at h
  split at h
  · obtain ⟨ns, rfl, h0, h⟩ := h
    obtain ⟨v, rfl, r1⟩ := rv.one
    obtain ⟨p, ys, rfl, g1, g2, g3⟩ := r1.lstI
    have e := g2.ints_inv
    subst e
    exact ⟨p, ns, rfl, SqL.of (ex.fh _ _ g1), h0, fun m h1 h2 => k _ (h m h1 h2) _ F H ex (.int _)⟩
  · exact h.elim
theorem de_minL {p : Pos} (hc : X.calm = true) (hm : X.mg "min" = none) (ha : DA X c [a] ml) (hg : Gl X "min" := by rfl) (he : starEach [a] X.env = (false, eval a X.env) :: starEach [] X.env := by rfl) (hpl : (backTo pos (starEach [] X.env)).any (·.1) = false := by rfl) : DE X c (.Call (.Name "min" p) [a] [] pos) (dB minLD ml) :=
  de_callB (cr_min hc) sv_minL hg hm boot_min ha (by decide) (by decide) he hpl
end
theorem minLD_lst {xs : List D} {Q : D → Prop} : minLD [.list xs] Q = ∃ ns : List Int, xs = ns.map .int ∧ 0 < ns.length ∧ ∀ m, m ∈ ns → (∀ y, y ∈ ns → m ≤ y) → Q (.int m) := rfl
theorem memD_str {n : Str} : ∀ ns : List Str, memD (.str n) (ns.map .str) = decide (n ∈ ns)
  | [] => rfl
  | k :: ns => by
    have q := memD_str (n := n) ns
    unfold memD at q ⊢
    rw [List.map_cons, List.any_cons, q]
    by_cases h : k = n
    · subst h; simp [eqv_str]
    · have h' : ¬ n = k := fun z => h z.symm
      simp [eqv_str, h, h']
theorem flat_strs : ∀ ns : List Str, (ns.map PyData.str).all flatD = true
  | [] => rfl
  | n :: ns => by rw [List.map_cons, List.all_cons, flat_strs ns]; rfl
theorem in_tupS {neg : Bool} {n : Str} (ns : List Str) {Q : D → Prop} (h : Q (.bool (if neg then !decide (n ∈ ns) else decide (n ∈ ns)))) : inD neg (.str n) (.tuple (ns.map .str)) Q := by
  show (flatD (.str n) = true ∧ _) ∧ _
  refine ⟨⟨rfl, flat_strs ns⟩, ?_⟩
  rw [memD_str]; exact h
end Lay
namespace Lay
open PySem PySem.Spec L2
open PyProof.Rows hiding St
section
variable {z : Bool} {g : DTG} {mt : DTT} {me : DTE} {vs : List Nat} {en : En} {Q : D → Prop} {ds : List D}
theorem lc_rel (Pr : D → D → Prop) (hz : z = false → ds.length ≤ sizeLine)
    (h : ∀ d ∈ ds, ∀ P : Option D → Prop, (∀ y, Pr d y → P (some y)) → g d (wipeE en vs) fun en' => mt en' fun b => Cnd b (me en' fun y => P (some y)) (P none))
    (q : ∀ ys : List D, ys.length = ds.length → (∀ (i : Nat) d y, ds[i]? = some d → ys[i]? = some y → Pr d y) → Q (.list ys)) : LcW z g mt me vs ds en Q := by
  refine ⟨hz, fun i acc => acc.length = i ∧ ∀ (j : Nat) d y, ds[j]? = some d → acc[j]? = some y → Pr d y, ⟨rfl, fun j d y _ e => by simp at e⟩, fun i d acc hd _ ⟨hl, ha⟩ => ?_, fun acc _ ⟨hl, ha⟩ => q acc hl ha⟩
  refine h d (List.mem_of_getElem? hd) (fun o => match o with | some y => (acc ++ [y]).length = i + 1 ∧ ∀ (j : Nat) (d y_1 : D), ds[j]? = some d → (acc ++ [y])[j]? = some y_1 → Pr d y_1 | none => acc.length = i + 1 ∧ ∀ (j : Nat) (d y : D), ds[j]? = some d → acc[j]? = some y → Pr d y) fun y hy => ?_
  refine ⟨by rw [List.length_append, hl]; rfl, fun j d' y' e1 e2 => ?_⟩
  rcases Nat.lt_or_ge j acc.length with c | c
  · rw [List.getElem?_append_left c] at e2
    exact ha j d' y' e1 e2
  · rw [List.getElem?_append_right c] at e2
    have hj : j = i := by
      have := (List.getElem?_eq_some_iff.mp e2).1
      simp only [List.length_cons, List.length_nil] at this
      omega
    subst hj
    rw [hl, Nat.sub_self] at e2
    simp only [List.getElem?_cons_zero, Option.some.injEq] at e2
    subst e2
    rw [hd] at e1
    cases e1
    exact hy
theorem lc_each (Pr : D → Prop) (hz : z = false → ds.length ≤ sizeLine)
    (h : ∀ d ∈ ds, ∀ P : Option D → Prop, (∀ y, Pr y → P (some y)) → g d (wipeE en vs) fun en' => mt en' fun b => Cnd b (me en' fun y => P (some y)) (P none))
    (q : ∀ ys : List D, ys.length = ds.length → (∀ y ∈ ys, Pr y) → Q (.list ys)) : LcW z g mt me vs ds en Q :=
  lc_rel (fun _ y => Pr y) hz h fun ys hl hy => q ys hl fun y m => by
    obtain ⟨i, hi, e⟩ := List.mem_iff_getElem.mp m
    exact hy i (ds[i]'(by omega)) y (List.getElem?_eq_getElem (by omega)) (by rw [List.getElem?_eq_getElem hi, e])
end
end Lay
namespace Lay
open PySem PySem.Spec L2
open PyProof.Rows hiding St
abbrev KRow := List Key × Addr × V
def mergeT (rows : List KRow) : List (List Key × V) := rows.foldl (fun acc x => putK acc x.1 x.2.2) []
def tDispT (trs : List (TE × TE)) : TE := fun σ H Q => ∀ p, H p = none → tPairs trs σ (upd H p (.dT [])) fun ps H2 => H2 p = some (.dT []) ∧ ∃ rows : List KRow, ps = rows.map (fun x => (V.ref x.2.1, x.2.2)) ∧ (∀ x ∈ rows, H2 x.2.1 = some (.tup (x.1.map kV))) ∧ rows.length ≤ 15 ∧
  ∀ od, Q (.ref p) (upd H2 p (.frz od (.dT (mergeT rows))))
section
variable {X : Cx} {pos : Pos}
abbrev knT (X : Cx) := tupleKind (mixKind X.prog X.w)
theorem carriesT {h : Heap} : ∀ {rows : List KRow} {ws : List (Value × Value)}, VV (rows.map fun x => (V.ref x.2.1, x.2.2)) ws → (∀ x ∈ rows, (knT X).is h x.1 x.2.1) →
    ∃ es : List (List Key × Addr × Value), CarriesH (knT X) h ws es ∧ Paired (fun (x : KRow) (y : List Key × Addr × Value) => x.1 = y.1 ∧ x.2.1 = y.2.1 ∧ RelV x.2.2 y.2.2) rows es
  | [], _, r, _ => by rw [List.map_nil] at r; cases r; exact ⟨[], True.intro, .nil⟩
  | x :: rows, _, r, hk => by
    rw [List.map_cons] at r
    cases r with
    | @cons _ b _ bs q t =>
      obtain ⟨es, c1, c2⟩ := carriesT (h := h) t fun y hy => hk y (List.mem_cons_of_mem _ hy)
      obtain ⟨b1, b2⟩ := b
      exact ⟨(x.1, x.2.1, b2) :: es, ⟨q.1, rfl, hk x List.mem_cons_self, c1⟩, .cons ⟨rfl, rfl, q.2⟩ c2⟩
theorem kt_fold {H : Hp} : ∀ {rows : List KRow} {es : List (List Key × Addr × Value)}, Paired (fun (x : KRow) (y : List Key × Addr × Value) => x.1 = y.1 ∧ x.2.1 = y.2.1 ∧ RelV x.2.2 y.2.2) rows es → (∀ x ∈ rows, H x.2.1 = some (.tup (x.1.map kV))) →
    ∀ {acc : List (List Key × V)} {acc' : List (List Key × Addr × Value)}, KT H acc acc' → KT H (rows.foldl (fun acc x => putK acc x.1 x.2.2) acc) (storedAllH acc' es) := by
  intro rows es r
  induction r with
  | nil => intro _ _ _ q; exact q
  | @cons x y xs ys h _ ih =>
    intro ht acc acc' q
    obtain ⟨h1, h2, h3⟩ := h
    have step : KT H (putK acc x.1 x.2.2) (storedH acc' y.1 y.2.1 y.2.2) := by
      rw [← h1, ← h2]
      exact q.put x.1 (ht x List.mem_cons_self) h3
    exact ih (fun z hz => ht z (List.mem_cons_of_mem _ hz)) step
theorem len_fold : ∀ (rows : List KRow) (acc : List (List Key × V)), (rows.foldl (fun acc x => putK acc x.1 x.2.2) acc).length ≤ acc.length + rows.length
  | [], _ => Nat.le_refl _
  | x :: rows, acc => by
    have h1 := len_fold rows (putK acc x.1 x.2.2)
    have h2 := length_putK acc x.1 x.2.2
    rw [List.foldl_cons, List.length_cons]
    omega
theorem pe_dispT {keys : List (Option Expr)} {values : List Expr} {trs : List (TE × TE)} (hu : X.A.units + 64 < cLine) (h : PPs X pos keys values trs) (hall : keys.all (·.isSome) = true) (hl : keys.length = values.length) (h0 : keys ≠ []) (h15 : keys.length ≤ 15) :
    PE X (.Dict keys values pos) (tDispT trs) := by
  refine ⟨fun pins s σ H Q I q => ?_⟩
  have hn := I.hok.fresh (Nat.le_refl s.heap.objs.size)
  have I1 := I.laid (a := s.heap.objs.size) (o := .dT []) (h' := s.heap.push { cls := .type "dict", data := .dict #[] }) (t' := s.toks) (fun _ _ q => Heap.get?_push_of_some _ q) (Nat.le_refl _) (dt_empty s.heap I.big)
  have hp := pairTrees_length keys values X.env pos hall hl
  have hne : pairTrees keys values X.env pos ≠ [] := fun e => by
    rw [e] at hp
    exact h0 (List.length_eq_zero_iff.mp hp.symm)
  have room : (knT X).room X.A := show X.A.units < cLine by omega
  rw [arm_eval_Dict, zip_pairTrees keys values X.env pos hall hl, dictDisplay_pairs _ hne (by omega)]
  refine wpAny_bind (wpAny_standAt (wpAny_bind (wpAny_subDictH (knd := knT X) room (by omega) (thn (h.run pins _ σ _ _ I1 (q _ hn)) fun ws s2 ⟨ps, H2, I2, rel, e, rows, ep, ht, lk, q2⟩ => ?_))))
  subst ep
  obtain ⟨es, c1, c2⟩ := carriesT (X := X) (h := s2.heap) rel fun x hx => key_of I2.hok (ht x hx)
  obtain ⟨z, hd, xs0, r0, dd⟩ := dt_of I2.hok e
  cases r0
  refine ⟨es, c1, dd, fun h' tk dd' hs => wpAny_pure ?_⟩
  have hz : (mergeT rows).length ≤ sizeLine := by
    have h1 := len_fold rows []
    rw [List.length_nil] at h1
    unfold mergeT
    rw [sizeLine_eq]
    omega
  have kt := kt_fold (H := H2) c2 ht (acc := []) (acc' := []) .nil
  obtain ⟨ob, ents, ep, hq, k2, k3, k4, _, k5⟩ := dd'
  have J : Inv X pins σ (upd H2 s.heap.objs.size (.dT (mergeT rows))) { s2 with heap := h', toks := tk } :=
    d_write I2 (by rw [e]; exact True.intro) hs ⟨ob, hq⟩ ⟨hz, hd, _, kt.keeps fun c ys ec => by
      rw [upd_ne (ne_of ec e (fun z => nomatch z))]
      exact ec, ob, ents, ep, hq, k2, k3, k4, k5⟩
  obtain ⟨od, J2⟩ := J.lock (d := s.heap.objs.size) (u := .dT (mergeT rows)) upd_same True.intro
  rw [upd_upd] at J2
  exact ⟨.ref s.heap.objs.size, _, J2, rfl, q2 od⟩
end
def onPair (ds : List D) (K : Int → Int → Prop) : Prop := match ds with | [.int i, .int j] => K i j | _ => False
theorem onPair_ii {i j : Int} {K : Int → Int → Prop} : onPair [.int i, .int j] K = K i j := rfl
def rdPairs : List DTA → En → (List (Int × Int) → Prop) → Prop
  | [], _, Q => Q []
  | m :: r, en, Q => m en fun ds => onPair ds fun i j => rdPairs r en fun ks => Q ((i, j) :: ks)
theorem rdPairs_nil {en : En} {Q : List (Int × Int) → Prop} : rdPairs [] en Q = Q [] := rfl
theorem rdPairs_cons {m : DTA} {r : List DTA} {en : En} {Q : List (Int × Int) → Prop} : rdPairs (m :: r) en Q = m en fun ds => onPair ds fun i j => rdPairs r en fun ks => Q ((i, j) :: ks) := rfl
def firsts (ks : List (Int × Int)) : List (Int × Int) := ks.foldl (fun acc k => if k ∈ acc then acc else acc ++ [k]) []
def pairI (k : Int × Int) : D := .tuple [.int k.1, .int k.2]
def keyI (k : Int × Int) : List Key := [.inl k.1, .inl k.2]
def dKeysW (rs : List DTA) (en : En) (Q : List D → Prop) : Prop := rdPairs rs en fun ks => Q ((firsts ks).map pairI)
inductive DKs (X : Cx) (c : Ct) : List (Option Expr) → List Expr → List DTA → List (TE × TE) → Prop
  | nil : DKs X c [] [] [] []
  | cons {a b v : Expr} {n} {tp : Pos} {i : Int} {ml : DTA} {ks : List (Option Expr)} {vs : List Expr} {rs : List DTA} {ts : List (TE × TE)} : DA X c [a, b] ml → PE X v (tC (.int i)) → DKs X c ks vs rs ts →
      DKs X c (some (.Tuple [a, b] n tp) :: ks) (v :: vs) (ml :: rs) ((tTup (liftA X.K c 2 ml), tC (.int i)) :: ts)
section
variable {X : Cx} {c : Ct} {pos : Pos}
theorem DKs.pps {ks : List (Option Expr)} {vs : List Expr} {rs : List DTA} {ts : List (TE × TE)} (h : DKs X c ks vs rs ts) : PPs X pos ks vs ts := by
  induction h with
  | nil => exact pps_nil
  | cons h1 h2 _ ih => exact pps_cons (pe_tup h1.run) h2 ih
theorem DKs.lift {ks : List (Option Expr)} {vs : List Expr} {rs : List DTA} {ts : List (TE × TE)} (h : DKs X c ks vs rs ts) :
    ∀ {σ : St} {F H : Hp} {en : En} {Q : List (Int × Int) → Prop} {R : List (V × V) → Hp → Prop}, SR X.K c F σ H en → rdPairs rs en Q →
      (∀ (F2 H2 : Hp) (rows : List KRow) (ns : List (Int × Int)), Q ns → Ext c.wo F H F2 H2 → rows.map (·.1) = ns.map keyI → (∀ x ∈ rows, H2 x.2.1 = some (.tup (x.1.map kV))) → rows.length = ks.length → R (rows.map fun x => (V.ref x.2.1, x.2.2)) H2) → tPairs ts σ H R := by
  induction h with
  | nil =>
    intro σ F H en Q R r h k
    exact k F H [] [] h r.ext.self rfl (fun x hx => nomatch hx) rfl
  | @cons a b v n tp i ml ks vs rs ts h1 h2 _ ih =>
    intro σ F H en Q R r h k
    refine ⟨F, en, _, r, h, fun ds hd ws F1 H1 x1 rv hn => ?_⟩
    unfold onPair at hd
    split at hd
    · rename_i i1 j1
      cases rv with
      | cons ra rv =>
        cases rv with
        | cons rb rv =>
          cases rv
          cases ra
          cases rb
          have two : 2 ≤ sizeLine := by decide
          refine ⟨two, fun p hp => ?_⟩
          obtain ⟨y1, y2⟩ := newTup (c := c) (K := X.K) (ds := [.int i1, .int j1]) x1.self hp (.cons (.int _) (.cons (.int _) .nil)) two
          refine ih ((r.grow x1).grow y1) hd fun F2 H2 rows ns hq x2 em ht hl => ?_
          refine k F2 H2 (([.inl i1, .inl j1], p, .int i) :: rows) ((i1, j1) :: ns) hq (x1.trans (y1.trans x2)) (by rw [List.map_cons, em]; rfl) (fun x hx => ?_) (by rw [List.length_cons, List.length_cons, hl])
          rcases List.mem_cons.mp hx with rfl | hx
          · have hw : ¬ isW c.wo p := fun ⟨d, q⟩ => (x1.wne hp _ q).1 rfl
            exact x2.hh _ _ upd_same hw
          · exact ht x hx
    · exact hd.elim
theorem fold_keys : ∀ (rows : List KRow) (ns acc : List (Int × Int)) (kvs : List (List Key × V)), rows.map (·.1) = ns.map keyI → kvs.map (·.1) = acc.map keyI →
    (rows.foldl (fun acc x => putK acc x.1 x.2.2) kvs).map (·.1) = (ns.foldl (fun acc k => if k ∈ acc then acc else acc ++ [k]) acc).map keyI
  | [], [], _, _, _, h => h
  | [], _ :: _, _, _, e, _ => by simp at e
  | _ :: _, [], _, _, e, _ => by simp at e
  | x :: rows, n :: ns, acc, kvs, e, h => by
    rw [List.map_cons, List.map_cons] at e
    obtain ⟨e1, e2⟩ := List.cons.inj e
    rw [List.foldl_cons, List.foldl_cons]
    refine fold_keys rows ns _ _ e2 ?_
    have inj : ∀ a b : Int × Int, keyI a = keyI b → a = b := fun a b q => by
      unfold keyI at q
      simp only [List.cons.injEq, Sum.inl.injEq, and_true] at q
      exact Prod.ext q.1 q.2
    have mem : (kvs.any fun kv => decide (kv.1 = x.1)) = true ↔ n ∈ acc := by
      rw [List.any_eq_true]
      constructor
      · rintro ⟨kv, hm, hk⟩
        have hk := of_decide_eq_true hk
        have : kv.1 ∈ acc.map keyI := by rw [← h]; exact List.mem_map.mpr ⟨kv, hm, rfl⟩
        obtain ⟨a, ha, ea⟩ := List.mem_map.mp this
        rw [← inj a n (by rw [ea, hk, e1])]
        exact ha
      · intro hm
        have : keyI n ∈ kvs.map (·.1) := by rw [h]; exact List.mem_map.mpr ⟨n, hm, rfl⟩
        obtain ⟨kv, hk, ek⟩ := List.mem_map.mp this
        exact ⟨kv, hk, decide_eq_true (by rw [ek, e1])⟩
    unfold putK
    by_cases q : n ∈ acc
    · rw [if_pos q, if_pos (mem.mpr q), List.map_map]
      rw [← h]
      refine List.map_congr_left fun kv _ => ?_
      show (if kv.1 = x.1 then (kv.1, x.2.2) else kv).1 = kv.1
      split <;> rfl
    · rw [if_neg q, if_neg (fun z => q (mem.mp z)), List.map_append, List.map_append, h]
      rw [List.map_cons, List.map_cons]
      rw [show x.1 = keyI n from e1]
      rfl
theorem dwalk_keys {K : PySem.W.Frag} {wo : Option (Addr × Addr)} {F : Hp} {p : Addr} {od : Obj} {kvs : List (List Key × V)} {ns : List (Int × Int)} (h : F p = some (.frz od (.dT kvs))) (hk : kvs.map (·.1) = ns.map keyI) : DWalk K wo (Itkt p od kvs) F (ns.map pairI) where
  go := fun i d F' H hF x e => by
    refine ⟨x.fh _ _ (hF _ _ h), ?_⟩
    have := (List.getElem?_eq_some_iff.mp e).1
    have h2 := congrArg List.length hk
    rw [List.length_map, List.length_map] at h2
    rw [List.length_map] at this
    omega
  yld := fun i d F' H x H' hF ex e y => by
    obtain ⟨e1, k, v, q, hkv, rfl, hq⟩ := y
    subst e1
    rw [List.getElem?_map] at e
    obtain ⟨n, hn, rfl⟩ := Option.map_eq_some_iff.mp e
    have ek : k = keyI n := by
      have h2 := congrArg (·[i]?) hk
      simp only [List.getElem?_map, hkv, hn, Option.map_some, Option.some.injEq] at h2
      exact h2
    subst ek
    have two : ([PyData.int n.1, PyData.int n.2] : List D).length ≤ sizeLine := (show 2 ≤ sizeLine by decide)
    have rs : ∀ F'' : Hp, F'' q = some (.tup ((keyI n).map kV)) → Rep K F'' (.ref q) (pairI n) := fun F'' hf => .tup (SqT.of hf) (.cons (.int _) (.cons (.int _) .nil)) two
    cases e2 : F' q with
    | some o =>
      have := ex.fh _ _ e2
      rw [hq] at this
      cases this
      exact ⟨F', ex, rs F' e2⟩
    | none =>
      refine ⟨upd F' q (.tup ((keyI n).map kV)), ⟨fun a o z => ?_, fun a o z => ?_, fun _ _ z _ => z, fun a o z w => ?_, ex.wk⟩, rs _ upd_same⟩
      · rw [upd_ne (ne_of_none z e2)]; exact z
      · by_cases c : a = q
        · subst c; rw [upd_same] at z; cases z; exact hq
        · rw [upd_ne c] at z; exact ex.fh a o z
      · by_cases c : a = q
        · subst c; exact .inr ⟨_, hq⟩
        · rw [upd_ne c] at z; rw [w] at z; cases z
  stop := fun F' H hF x => by
    refine ⟨x.fh _ _ (hF _ _ h), ?_⟩
    have h2 := congrArg List.length hk
    rw [List.length_map, List.length_map] at h2
    rw [List.length_map]
    omega
theorem firsts_len (ks : List (Int × Int)) : (firsts ks).length ≤ ks.length := by
  have : ∀ (ks acc : List (Int × Int)), (ks.foldl (fun acc k => if k ∈ acc then acc else acc ++ [k]) acc).length ≤ acc.length + ks.length := by
    intro ks
    induction ks with
    | nil => intro acc; exact Nat.le_refl _
    | cons k ks ih =>
      intro acc
      rw [List.foldl_cons, List.length_cons]
      refine Nat.le_trans (ih _) ?_
      split
      · omega
      · rw [List.length_append, List.length_singleton]; omega
  have := this ks []
  rw [List.length_nil, Nat.zero_add] at this
  exact this
/-- the keys of a written dict, walked -/
theorem di_keysW {tg : Expr} {ks : List (Option Expr)} {vs : List Expr} {rs : List DTA} {ts : List (TE × TE)} (hu : X.A.units + 64 < cLine) (h : DKs X c ks vs rs ts) (hall : ks.all (·.isSome) = true := by rfl) (hl : ks.length = vs.length := by rfl) (h0 : ks ≠ [] := by exact List.cons_ne_nil _ _) (h15 : ks.length ≤ 15 := by decide) :
    DI X c tg (.Dict ks vs pos) true (dKeysW rs) := by
  refine ⟨PI.imp (pi_keys (pe_dispT hu h.pps hall hl h0 h15)) fun σ H Q q => ?_⟩
  obtain ⟨F, en, R, r, q, k⟩ := q
  intro p hp
  have fp : F p = none := by
    cases e : F p with
    | none => rfl
    | some u => rw [r.fh _ _ e] at hp; cases hp
  have x0 : Ext c.wo F H F (upd H p (.dT [])) := r.ext.self.poke hp fp (r.ext.wne hp)
  refine h.lift (r.grow x0) q fun F2 H2 rows ns hq x2 em ht hl2 => ?_
  have hw : ¬ isW c.wo p := fun ⟨d, w⟩ => (r.ext.wne hp _ w).1 rfl
  have hp2 : H2 p = some (.dT []) := x2.hh _ _ upd_same hw
  have ll : rows.length ≤ 15 := by omega
  refine ⟨hp2, rows, rfl, ht, ll, fun od => ?_⟩
  refine ⟨p, od, rfl, .inr ⟨mergeT rows, upd_same, ?_⟩⟩
  have fp2 : F2 p = none := by
    cases e : F2 p with
    | none => rfl
    | some u =>
      rcases x2.nw _ _ e fp with z | ⟨_, z⟩ <;> (rw [upd_same] at z; cases z)
  have nw0 : ∀ a u, H a = some u → a ≠ p := fun a u e => ne_of_none e hp
  have x3 : Ext c.wo F H (upd F2 p (.frz od (.dT (mergeT rows)))) (upd H2 p (.frz od (.dT (mergeT rows)))) := by
    have x := x0.trans x2
    refine ⟨fun a o e => ?_, fun a o e => ?_, fun a o e n => by rw [upd_ne (nw0 a o e)]; exact x.hh a o e n, fun a o e n => ?_, fun w e => (x.wk w e).keep (fun o z => ?_) (fun o z => ?_)⟩
    · have := x.ff a o e
      rw [upd_ne (ne_of_none this fp2)]; exact this
    · by_cases z : a = p
      · subst z; rw [upd_same] at e ⊢; exact e
      · rw [upd_ne z] at e ⊢; exact x.fh a o e
    · by_cases z : a = p
      · subst z; exact .inl hp
      · rw [upd_ne z] at e; exact x.nw a o e n
    · rw [upd_ne (r.ext.wne hp w e).1.symm]; exact z
    · rw [upd_ne (r.ext.wne hp w e).2.symm]; exact z
  have hk : (mergeT rows).map (·.1) = (firsts ns).map keyI := fold_keys rows ns [] [] em rfl
  refine k _ hq _ _ _ x3 (dwalk_keys upd_same hk) fun _ => ?_
  have l1 := firsts_len ns
  have l2 := congrArg List.length em
  rw [List.length_map, List.length_map] at l2
  rw [List.length_map]
  have : 15 ≤ sizeLine := by decide
  omega
end
end Lay
namespace Lay
open PySem PySem.Spec L2
open PyProof.Rows hiding St
local macro_rules | `(tactic| walk_at "d1") => `(tactic| try simp only [dSeq, dSkip, dPass, dRet, dRetN, dDrop, dCond, dAsg, gNm, gTp, dOwn, dOwnL, dPar, dAug, dApp, dExt, dFrz, dFor, dLc, dBreak, dCont, dVar, dC, dOp, dT, dIsi, dNeg, dNot, dTNot, dAnd, dOr, dTAnd, dTOr, dIf, dCh, dNil, dCons, dTup, dLst, dIxO, dB, dCall, dCallW, dItems, dRng1, dRng2, dYes, fnE, startE, startW, startS, dLenO, dLenS, dIxS, dSl, dPt, dNo, wipeE, addD_int, addD_str, addD_tup, addD_lst, subD_int, mulD_int, mulD_tup, mulD_lst, fdivD_int, modD_int, powD_int, shlD_int, shrD_int, andD_int, ltD_int, leD_int, gtD_int, geD_int, eqD_ap, neD_ap, isD_ap, isNotD_ap, isNon_none, isNon_int, isNon_bool, isNon_str, isNon_tup, isNon_lst, isInt_none, isInt_int, isInt_bool, isInt_str, isInt_tup, isInt_lst, isBool_none, isBool_int, isBool_bool, isBool_str, isBool_tup, isBool_lst, isStr_none, isStr_int, isStr_bool, isStr_str, isStr_tup, isStr_lst, isTup_none, isTup_int, isTup_bool, isTup_str, isTup_tup, isTup_lst, isLst_lst, Cnd_true, Cnd_false, Cnd_not, Cnd_dec, asB_bool, forall_const, true_implies, false_implies, implies_true, decide_true, decide_false, Classical.not_not, negD_int, notD_bool, onVal_val, onOwn_own, onDic_dic, onScr_scr, onWv_wv, onInt_int, onTup_tup, onLst_lst, onItems_lst, onItems_tup, frz1_own, frz1_val, frz1_un, ixD_lst, ixD_tup, ixL_int, optD_some, optI_some, absD_int, intD_int, intD_bool, lenD_lst, lenD_tup, lenD_str, tupleD_lst, tupleD_tup, listD_lst, listD_tup, min2D_int, max2D_int, sumD_ints, allD_bls, anyD_bls, slD_lst, slD_tup, slD_str, gNl_nil, gCs_cons, par2_two, seq1_lst, seq1_tup, rng1D_int, rng2D_int, gt_z, gt_s, sp_next_int, set_z, set_s, List.map_cons, List.map_nil, List.length_cons, List.length_nil, List.cons_append, List.nil_append, List.replicate, Nat.reduceAdd, Nat.reduceSub, Nat.zero_add, shaped_int, shaped_bool, shaped_none, shaped_listI, shaped_tupI, shaped_nilL, shaped_nilT, eqv_int, eqv_bool, eqv_str, eqv_none, eqv_list_nil, List.isEmpty_nil, List.isEmpty_cons, Bool.true_eq_false, Bool.false_eq_true, decide_eq_true_eq, and_self, true_and, and_true, not_dec, Bool.not_eq_true', decide_eq_false_iff_not, atI_0, atI_1, atI_2, ite_true, ite_false, if_true, if_false, reduceIte, Bool.not_true, Bool.not_false, not_true_eq_false, not_false_eq_true, List.set_cons_zero, List.set_cons_succ, dPar3, dRev, par3_three, sortedD_ints, revD_tup, two_nat, one_nat, three_nat, dCh3, dOwnC, dPutPar, putPar_two, dZip2, zip2D_lst, zip2D_tup, dPut, isBD_bl, isNotBD_bl, dNewO, dPutO, dSortedO, putKD_int, dPar3O, dParO2, par3O_two, parO2_one, minLD_lst, dKeysW, rdPairs_nil, rdPairs_cons, onPair_ii, revD_lst])
local macro_rules | `(tactic| walk_at "dd") => `(tactic| (walk_at "d1"; repeat (with_reducible (refine then_intro ?_); walk_at "d1")))
theorem natAbs_fmod_lt (c : Int) {d : Int} (h : d ≠ 0) : (c.fmod d).natAbs < d.natAbs := by
  rw [Int.fmod_eq_emod]
  have h1 := Int.emod_nonneg c h
  have h2 := Int.emod_lt c h
  split
  · rename_i q
    rcases q with q | q
    · omega
    · have := Int.emod_eq_zero_of_dvd q
      omega
  · rename_i q
    have : ¬ (d ∣ c) := fun z => q (.inr z)
    have h3 : c % d ≠ 0 := fun z => this (Int.dvd_of_emod_eq_zero z)
    omega
theorem bits_mono {n m : Nat} {x : Int} (h : x.natAbs < 2 ^ n) (hm : n ≤ m) : x.natAbs < 2 ^ m := Nat.lt_of_lt_of_le h (Nat.pow_le_pow_right (by decide) hm)
theorem bits_mul {n m : Nat} {x y : Int} (hx : x.natAbs < 2 ^ n) (hy : y.natAbs < 2 ^ m) : (x * y).natAbs < 2 ^ (n + m) := wide_lt hx hy
theorem bits_add {n m : Nat} {x y : Int} (hx : x.natAbs < 2 ^ n) (hy : y.natAbs < 2 ^ m) : (x + y).natAbs < 2 ^ (n + m + 1) := by
  have h1 : 2 ^ n ≤ 2 ^ (n + m) := Nat.pow_le_pow_right (by decide) (by omega)
  have h2 : 2 ^ m ≤ 2 ^ (n + m) := Nat.pow_le_pow_right (by decide) (by omega)
  rw [Nat.pow_succ]
  omega
theorem bits_le {n : Nat} {x y : Int} (hx : x.natAbs ≤ y.natAbs) (hy : y.natAbs < 2 ^ n) : x.natAbs < 2 ^ n := Nat.lt_of_le_of_lt hx hy
theorem mulOk {n m : Nat} {x y : Int} (hx : x.natAbs < 2 ^ n) (hy : y.natAbs < 2 ^ m) (h : n + m ≤ 900000) : CMulW x y :=
  wide_mul (bits_mono hx (Nat.le_succ n)) (bits_mono hy (Nat.le_succ m)) (by omega) (by omega) (by omega)
theorem divOk {n : Nat} {x y : Int} (h0 : y ≠ 0) (hy : y.natAbs < 2 ^ n) (h : n ≤ 8999) : CDivB x y :=
  ⟨h0, Nat.lt_of_lt_of_le (PySem.Flt.log2_lt_of (by omega : 0 < n + 1) (Nat.lt_of_lt_of_le hy (Nat.pow_le_pow_right (by decide) (Nat.le_succ n)))) (by omega)⟩
theorem fdiv_pos (a : Int) {b : Int} (h : 0 < b) : a.fdiv b = a / b := Int.fdiv_eq_ediv_of_nonneg a (by omega)
theorem fmod_pos (a : Int) {b : Int} (h : 0 < b) : a.fmod b = a % b := Int.fmod_eq_emod_of_nonneg a (by omega)
/-- a menu of ints -/
theorem menu_ints {ns : List Int} {R : D → Prop} (h : ∀ n ∈ ns, R (.int n)) : ∀ x ∈ ns.map PyData.int, R x := fun x hx => by
  obtain ⟨n, hn, rfl⟩ := List.mem_map.mp hx
  exact h n hn
theorem menu_bound {ns : List Int} {b : Nat} (hb : ns.all (fun n => decide (n.natAbs ≤ b)) = true) {R : D → Prop} (h : ∀ n : Int, n.natAbs ≤ b → R (.int n)) : ∀ x ∈ ns.map PyData.int, R x :=
  menu_ints fun n hn => h n (of_decide_eq_true (List.all_eq_true.mp hb n hn))
theorem menu_p {ns : List Int} (p : Int → Bool) (hb : ns.all p = true) {R : D → Prop} (h : ∀ n : Int, p n = true → R (.int n)) : ∀ x ∈ ns.map PyData.int, R x :=
  menu_ints fun n hn => h n (List.all_eq_true.mp hb n hn)
theorem menu_range {ns : List Int} (a b : Int) (hb : ns.all (fun n => decide (a ≤ n ∧ n ≤ b)) = true) {R : D → Prop} (h : ∀ n : Int, a ≤ n → n ≤ b → R (.int n)) : ∀ x ∈ ns.map PyData.int, R x :=
  menu_p _ hb fun n hn => h n (of_decide_eq_true hn).1 (of_decide_eq_true hn).2
theorem mul_le_nat {x y : Int} {a b : Nat} (hx : x.natAbs ≤ a) (hy : y.natAbs ≤ b) : (x * y).natAbs ≤ a * b := by rw [Int.natAbs_mul]; exact Nat.mul_le_mul hx hy
theorem nat_fmod (x : Nat) (k : Nat) (hk : 0 < k) : (x : Int).fmod (k : Int) = ((x % k : Nat) : Int) := by rw [fmod_pos _ (by omega), Int.natCast_emod]
theorem snoc_ind {α : Type} {P : List α → Prop} (h0 : P []) (h1 : ∀ xs x, P xs → P (xs ++ [x])) : ∀ xs, P xs := by
  have key : ∀ ys : List α, P ys.reverse := fun ys => by
    induction ys with
    | nil => exact h0
    | cons y ys ih => rw [List.reverse_cons]; exact h1 _ _ ih
  exact fun xs => by have := key xs.reverse; rwa [List.reverse_reverse] at this
theorem take_snoc {α : Type} {xs : List α} {i : Nat} {x : α} (h : xs[i]? = some x) : xs.take (i + 1) = xs.take i ++ [x] := by rw [List.take_succ, h]; rfl
local macro_rules | `(tactic| walk_at "d1") => `(tactic| try simp only [dSeq, dSkip, dPass, dRet, dRetN, dDrop, dCond, dAsg, gNm, gTp, dOwn, dOwnL, dPar, dAug, dApp, dExt, dFrz, dFor, dLc, dBreak, dCont, dVar, dC, dOp, dT, dIsi, dNeg, dNot, dTNot, dAnd, dOr, dTAnd, dTOr, dIf, dCh, dNil, dCons, dTup, dLst, dIxO, dB, dCall, dCallW, dItems, dRng1, dRng2, dYes, fnE, startE, startW, startS, dLenO, dLenS, dIxS, dSl, dPt, dNo, wipeE, addD_int, addD_str, addD_tup, addD_lst, subD_int, mulD_int, mulD_tup, mulD_lst, fdivD_int, modD_int, powD_int, shlD_int, shrD_int, andD_int, ltD_int, leD_int, gtD_int, geD_int, eqD_ap, neD_ap, isD_ap, isNotD_ap, isNon_none, isNon_int, isNon_bool, isNon_str, isNon_tup, isNon_lst, isInt_none, isInt_int, isInt_bool, isInt_str, isInt_tup, isInt_lst, isBool_none, isBool_int, isBool_bool, isBool_str, isBool_tup, isBool_lst, isStr_none, isStr_int, isStr_bool, isStr_str, isStr_tup, isStr_lst, isTup_none, isTup_int, isTup_bool, isTup_str, isTup_tup, isTup_lst, isLst_lst, Cnd_true, Cnd_false, Cnd_not, Cnd_dec, asB_bool, forall_const, true_implies, false_implies, implies_true, decide_true, decide_false, Classical.not_not, negD_int, notD_bool, onVal_val, onOwn_own, onDic_dic, onScr_scr, onWv_wv, onInt_int, onTup_tup, onLst_lst, onItems_lst, onItems_tup, frz1_own, frz1_val, frz1_un, ixD_lst, ixD_tup, ixL_int, optD_some, optI_some, absD_int, intD_int, intD_bool, lenD_lst, lenD_tup, lenD_str, tupleD_lst, tupleD_tup, listD_lst, listD_tup, min2D_int, max2D_int, sumD_ints, allD_bls, anyD_bls, slD_lst, slD_tup, slD_str, gNl_nil, gCs_cons, par2_two, seq1_lst, seq1_tup, rng1D_int, rng2D_int, gt_z, gt_s, sp_next_int, set_z, set_s, List.map_cons, List.map_nil, List.length_cons, List.length_nil, List.cons_append, List.nil_append, List.replicate, Nat.reduceAdd, Nat.reduceSub, Nat.zero_add, shaped_int, shaped_bool, shaped_none, shaped_listI, shaped_tupI, shaped_nilL, shaped_nilT, eqv_int, eqv_bool, eqv_str, eqv_none, eqv_list_nil, List.isEmpty_nil, List.isEmpty_cons, Bool.true_eq_false, Bool.false_eq_true, decide_eq_true_eq, and_self, true_and, and_true, not_dec, Bool.not_eq_true', decide_eq_false_iff_not, atI_0, atI_1, atI_2, ite_true, ite_false, if_true, if_false, reduceIte, Bool.not_true, Bool.not_false, not_true_eq_false, not_false_eq_true, List.set_cons_zero, List.set_cons_succ, dPar3, dRev, par3_three, sortedD_ints, revD_tup, two_nat, one_nat, three_nat, dCh3, dOwnC, dPutPar, putPar_two, dZip2, zip2D_lst, zip2D_tup, dPut, isBD_bl, isNotBD_bl, dNewO, dPutO, dSortedO, putKD_int, dPar3O, dParO2, par3O_two, parO2_one, minLD_lst, dKeysW, rdPairs_nil, rdPairs_cons, onPair_ii, revD_lst])
local macro_rules | `(tactic| walk_at "dd") => `(tactic| (walk_at "d1"; repeat (with_reducible (refine then_intro ?_); walk_at "d1")))
def rd_law_draws_b1 : DTS :=
  (dCond (dT (dOp gtD (dVar 6) (dC (.int 0)))) (dSeq (dApp 2 (dOp modD (dB intD (dCons (dVar 6) dNil)) (dC (.int 997)))) (dAsg (dOp fdivD (dVar 6) (dC (.int 997))) (gNm 6))) dSkip)
def rd_law_draws_b2 : DTS :=
  (dSeq (dAsg (dB absD (dCons (dB intD (dCons (dIxS 0 (dVar 4)) dNil)) dNil)) (gNm 5)) (dSeq (dAsg (dOp modD (dB intD (dCons (dOp addD (dOp addD (dOp mulD (dVar 3) (dC (.int 48271))) (dOp modD (dVar 5) (dC (.int 1000003)))) (dVar 4)) dNil)) (dC (.int 65537))) (gNm 3)) (dSeq (dAsg (dC (.int 0)) (gNm 6)) (dSeq (dCond (dT (dOp geD (dVar 5) (dOp powD (dC (.int 10)) (dC (.int 18))))) (dAsg (dVar 5) (gNm 6)) (dSeq (dApp 2 (dOp modD (dB intD (dCons (dVar 5) dNil)) (dC (.int 997)))) (dApp 2 (dOp modD (dOp modD (dB intD (dCons (dOp addD (dOp mulD (dVar 3) (dC (.int 69621))) (dC (.int 5))) dNil)) (dC (.int 65521))) (dC (.int 997)))))) (dFor (dRng1 (dCons (dC (.int 60)) dNil)) (gNm 7) rd_law_draws_b1)))))
def rd_law_draws_b3 : DTS :=
  (dSeq (dAsg (dOp modD (dB intD (dCons (dOp addD (dOp addD (dOp mulD (dVar 3) (dC (.int 16807))) (dVar 4)) (dC (.int 1))) dNil)) (dC (.int 65537))) (gNm 3)) (dApp 2 (dOp modD (dB intD (dCons (dVar 3) dNil)) (dC (.int 997)))))
def rd_law_draws : DTS :=
  (dSeq (dOwn 2 dNil) (dSeq (dAsg (dC (.int 7)) (gNm 3)) (dSeq (dFor (dRng1 (dCons (dLenS 0) dNil)) (gNm 4) rd_law_draws_b2) (dSeq (dFor (dRng1 (dCons (dVar 1) dNil)) (gNm 4) rd_law_draws_b3) (dFrz 2 (dRet (dSl (dVar 2) dNo (dPt (dVar 1)))))))))
def DrawL (ms : List Int) : Prop := ∀ r ∈ ms, 0 ≤ r ∧ r < 997
theorem DrawL.app {ms : List Int} {x : Int} (h : DrawL ms) (h0 : 0 ≤ x) (h1 : x < 997) : DrawL (ms ++ [x]) := fun r hr => by
  rcases List.mem_append.mp hr with hr | hr
  · exact h r hr
  · rw [List.mem_singleton] at hr; subst hr; exact ⟨h0, h1⟩
theorem ok_law_draws : ∀ ns ds R, ns.length ≤ 63 → sp_draws ns ds R → rd_law_draws (fnE R) (startS 8 ns ds) := by
  intro ns ds R h63 h
  unfold sp_draws at h
  split at h
  · rename_i many
    obtain ⟨⟨m0, m1⟩, h⟩ := h
    unfold rd_law_draws
    walk_at "dd"
    refine ⟨by omega, ?_⟩
    refine for_by (fun (s : List Int × Int × Sl × Sl × Sl × Sl) => [.scr ns, .val (.int many), .own (s.1.map .int), .val (.int s.2.1), s.2.2.1, s.2.2.2.1, s.2.2.2.2.1, s.2.2.2.2.2])
      (fun i s => DrawL s.1 ∧ s.1.length ≤ i * 70 ∧ 0 ≤ s.2.1 ∧ s.2.1 < 65537) ([], 7, .un, .un, .un, .un) rfl ⟨(fun r hr => nomatch hr), Nat.zero_le _, by decide, by decide⟩ ?_ ?_
    · rintro i d hd ⟨ms, mixed, u1, u2, u3, u4⟩ ⟨hms, hlen, hm0, hm1⟩ bk
      simp only at hms hlen hm0 hm1
      obtain ⟨hi, rfl⟩ := rangeD_get hd
      have hi' : i < ns.length := by omega
      have en : (0 : Int) + (i : Int) = (i : Int) := by omega
      have ea : atI ns (i : Int) = some ns[i] := atI_nat (List.getElem?_eq_getElem hi')
      unfold rd_law_draws_b2
      walk_at "dd"
      rw [en]
      simp only [ea]
      have hsz : (sizeLine : Nat) = 16777216 := sizeLine_eq
      refine ⟨mulOk (n := 20) (m := 20) (by omega) (by decide) (by decide), by decide, by decide, ⟨by decide, by decide, by decide⟩, ?_⟩
      rw [fmod_pos _ (by decide : (0 : Int) < 65537), fmod_pos _ (by decide : (0 : Int) < 1000003)]
      have q1 := Int.emod_nonneg (mixed * 48271 + (ns[i].natAbs : Int) % 1000003 + (i : Int)) (by decide : (65537 : Int) ≠ 0)
      have q2 := Int.emod_lt_of_pos (mixed * 48271 + (ns[i].natAbs : Int) % 1000003 + (i : Int)) (by decide : (0 : Int) < 65537)
      generalize (mixed * 48271 + (ns[i].natAbs : Int) % 1000003 + (i : Int)) % 65537 = mx at q1 q2
      walk_at "dd"
      -- the inner loop
      have inner : ∀ (ms' : List Int) (rest : Int) (u : Sl), DrawL ms' → ms'.length ≤ i * 70 + 2 →
          ForW (gNm 7) rd_law_draws_b1 (rangeD 0 60) { nx := fun en' => ∃ a', en' = (fun (s : List Int × Int × Sl × Sl × Sl × Sl) => [.scr ns, .val (.int many), .own (s.1.map .int), .val (.int s.2.1), s.2.2.1, s.2.2.2.1, s.2.2.2.2.1, s.2.2.2.2.2]) a' ∧ DrawL a'.1 ∧ a'.1.length ≤ (i + 1) * 70 ∧ 0 ≤ a'.2.1 ∧ a'.2.1 < 65537, ct := fun en' => ∃ a', en' = (fun (s : List Int × Int × Sl × Sl × Sl × Sl) => [.scr ns, .val (.int many), .own (s.1.map .int), .val (.int s.2.1), s.2.2.1, s.2.2.2.1, s.2.2.2.2.1, s.2.2.2.2.2]) a' ∧ DrawL a'.1 ∧ a'.1.length ≤ (i + 1) * 70 ∧ 0 ≤ a'.2.1 ∧ a'.2.1 < 65537, bk := bk, rt := R }
            [.scr ns, .val (.int many), .own (ms'.map .int), .val (.int mx), .val (.int (i : Int)), .val (.int (ns[i].natAbs : Int)), .val (.int rest), u] := by
        intro ms' rest u hms' hl'
        refine for_by (fun (s : List Int × Int × Sl) => [.scr ns, .val (.int many), .own (s.1.map .int), .val (.int mx), .val (.int (i : Int)), .val (.int (ns[i].natAbs : Int)), .val (.int s.2.1), s.2.2])
          (fun j s => DrawL s.1 ∧ s.1.length ≤ i * 70 + 2 + j) (ms', rest, u) rfl ⟨hms', by omega⟩ ?_ ?_
        · rintro j d hd ⟨ms2, r2, u2⟩ ⟨hm2, hl2⟩ bk'
          simp only at hm2 hl2
          obtain ⟨hj, rfl⟩ := rangeD_get hd
          unfold rd_law_draws_b1
          walk_at "dd"
          refine ⟨fun hr => ?_, fun hr => ?_⟩
          · rw [fmod_pos _ (by decide : (0 : Int) < 997)]
            have q3 := Int.emod_nonneg r2 (by decide : (997 : Int) ≠ 0)
            have q4 := Int.emod_lt_of_pos r2 (by decide : (0 : Int) < 997)
            refine ⟨by decide, by rw [List.length_map]; omega, divOk (n := 10) (by decide) (by decide) (by decide), ?_⟩
            exact ⟨(ms2 ++ [r2 % 997], r2.fdiv 997, _), by rw [List.map_append]; rfl, hm2.app q3 q4, by simp only [List.length_append, List.length_singleton]; omega⟩
          · exact ⟨(ms2, r2, _), rfl, hm2, by simp only; omega⟩
        · rintro ⟨ms2, r2, u2⟩ ⟨hm2, hl2⟩
          simp only [rangeD_length] at hm2 hl2
          exact ⟨(ms2, mx, .val (.int (i : Int)), .val (.int (ns[i].natAbs : Int)), .val (.int r2), u2), rfl, hm2, by simp only; omega, q1, q2⟩
      refine ⟨fun hc => ?_, fun hc => ?_⟩
      all_goals walk_at "dd"
      · exact ⟨by decide, inner ms _ _ hms (by omega)⟩
      · refine ⟨by decide, by rw [List.length_map]; omega, mulOk (n := 20) (m := 20) (by omega) (by decide) (by decide), by decide, by decide, by rw [List.length_append, List.length_map, List.length_singleton]; omega, by decide, ?_⟩
        rw [fmod_pos _ (by decide : (0 : Int) < 997), fmod_pos _ (by decide : (0 : Int) < 997), fmod_pos _ (by decide : (0 : Int) < 65521)]
        have e : (ms.map PyData.int ++ [.int ((ns[i].natAbs : Int) % 997)]) ++ [.int ((mx * 69621 + 5) % 65521 % 997)] = (ms ++ [(ns[i].natAbs : Int) % 997] ++ [(mx * 69621 + 5) % 65521 % 997]).map PyData.int := by simp
        rw [e]
        refine inner _ _ _ ((hms.app (Int.emod_nonneg _ (by decide)) (Int.emod_lt_of_pos _ (by decide))).app (Int.emod_nonneg _ (by decide)) (Int.emod_lt_of_pos _ (by decide))) ?_
        simp only [List.length_append, List.length_singleton]
        omega
    · rintro ⟨ms, mixed, u1, u2, u3, u4⟩ ⟨hms, hlen, hm0, hm1⟩
      simp only [rangeD_length] at hms hlen hm0 hm1
      walk_at "dd"
      refine ⟨by omega, ?_⟩
      refine for_by (fun (s : List Int × Int × Sl) => [.scr ns, .val (.int many), .own (s.1.map .int), .val (.int s.2.1), s.2.2, u2, u3, u4])
        (fun i s => DrawL s.1 ∧ s.1.length ≤ 5000 + i ∧ 0 ≤ s.2.1 ∧ s.2.1 < 65537) (ms, mixed, u1) rfl ⟨hms, by simp only; omega, hm0, hm1⟩ ?_ ?_
      · rintro i d hd ⟨ms2, m2, u⟩ ⟨hm2, hl2, h1, h2⟩ bk
        simp only at hm2 hl2 h1 h2
        obtain ⟨hi, rfl⟩ := rangeD_get hd
        unfold rd_law_draws_b3
        walk_at "dd"
        have hsz : (sizeLine : Nat) = 16777216 := sizeLine_eq
        refine ⟨mulOk (n := 20) (m := 20) (by omega) (by decide) (by decide), by decide, by decide, by rw [List.length_map]; omega, ?_⟩
        rw [fmod_pos _ (by decide : (0 : Int) < 997), fmod_pos _ (by decide : (0 : Int) < 65537)]
        exact ⟨(ms2 ++ [(m2 * 16807 + (0 + (i : Int)) + 1) % 65537 % 997], (m2 * 16807 + (0 + (i : Int)) + 1) % 65537, _), by rw [List.map_append]; rfl, hm2.app (Int.emod_nonneg _ (by decide)) (Int.emod_lt_of_pos _ (by decide)),
          by simp only [List.length_append, List.length_singleton]; omega, Int.emod_nonneg _ (by decide), Int.emod_lt_of_pos _ (by decide)⟩
      · rintro ⟨ms2, m2, u⟩ ⟨hm2, hl2, h1, h2⟩
        simp only at hm2
        walk_at "dd"
        have e : cutL (ms2.map PyData.int) none (some many) = (cutL ms2 none (some many)).map .int := by
          unfold cutL
          rw [List.length_map, List.map_take, List.map_drop]
        rw [e]
        refine h _ fun r hr => hm2 r ?_
        unfold cutL at hr
        exact List.mem_of_mem_drop (List.mem_of_mem_take hr)
  · exact h.elim
local macro_rules | `(tactic| walk_at "d1") => `(tactic| try simp only [dSeq, dSkip, dPass, dRet, dRetN, dDrop, dCond, dAsg, gNm, gTp, dOwn, dOwnL, dPar, dAug, dApp, dExt, dFrz, dFor, dLc, dBreak, dCont, dVar, dC, dOp, dT, dIsi, dNeg, dNot, dTNot, dAnd, dOr, dTAnd, dTOr, dIf, dCh, dNil, dCons, dTup, dLst, dIxO, dB, dCall, dCallW, dItems, dRng1, dRng2, dYes, fnE, startE, startW, startS, dLenO, dLenS, dIxS, dSl, dPt, dNo, wipeE, addD_int, addD_str, addD_tup, addD_lst, subD_int, mulD_int, mulD_tup, mulD_lst, fdivD_int, modD_int, powD_int, shlD_int, shrD_int, andD_int, ltD_int, leD_int, gtD_int, geD_int, eqD_ap, neD_ap, isD_ap, isNotD_ap, isNon_none, isNon_int, isNon_bool, isNon_str, isNon_tup, isNon_lst, isInt_none, isInt_int, isInt_bool, isInt_str, isInt_tup, isInt_lst, isBool_none, isBool_int, isBool_bool, isBool_str, isBool_tup, isBool_lst, isStr_none, isStr_int, isStr_bool, isStr_str, isStr_tup, isStr_lst, isTup_none, isTup_int, isTup_bool, isTup_str, isTup_tup, isTup_lst, isLst_lst, Cnd_true, Cnd_false, Cnd_not, Cnd_dec, asB_bool, forall_const, true_implies, false_implies, implies_true, decide_true, decide_false, Classical.not_not, negD_int, notD_bool, onVal_val, onOwn_own, onDic_dic, onScr_scr, onWv_wv, onInt_int, onTup_tup, onLst_lst, onItems_lst, onItems_tup, frz1_own, frz1_val, frz1_un, ixD_lst, ixD_tup, ixL_int, optD_some, optI_some, absD_int, intD_int, intD_bool, lenD_lst, lenD_tup, lenD_str, tupleD_lst, tupleD_tup, listD_lst, listD_tup, min2D_int, max2D_int, sumD_ints, allD_bls, anyD_bls, slD_lst, slD_tup, slD_str, gNl_nil, gCs_cons, par2_two, seq1_lst, seq1_tup, rng1D_int, rng2D_int, gt_z, gt_s, sp_next_int, set_z, set_s, List.map_cons, List.map_nil, List.length_cons, List.length_nil, List.cons_append, List.nil_append, List.replicate, Nat.reduceAdd, Nat.reduceSub, Nat.zero_add, shaped_int, shaped_bool, shaped_none, shaped_listI, shaped_tupI, shaped_nilL, shaped_nilT, eqv_int, eqv_bool, eqv_str, eqv_none, eqv_list_nil, List.isEmpty_nil, List.isEmpty_cons, Bool.true_eq_false, Bool.false_eq_true, decide_eq_true_eq, and_self, true_and, and_true, not_dec, Bool.not_eq_true', decide_eq_false_iff_not, atI_0, atI_1, atI_2, ite_true, ite_false, if_true, if_false, reduceIte, Bool.not_true, Bool.not_false, not_true_eq_false, not_false_eq_true, List.set_cons_zero, List.set_cons_succ, dPar3, dRev, par3_three, sortedD_ints, revD_tup, two_nat, one_nat, three_nat, dCh3, dOwnC, dPutPar, putPar_two, dZip2, zip2D_lst, zip2D_tup, dPut, isBD_bl, isNotBD_bl, dNewO, dPutO, dSortedO, putKD_int, dPar3O, dParO2, par3O_two, parO2_one, minLD_lst, dKeysW, rdPairs_nil, rdPairs_cons, onPair_ii, revD_lst])
local macro_rules | `(tactic| walk_at "dd") => `(tactic| (walk_at "d1"; repeat (with_reducible (refine then_intro ?_); walk_at "d1")))
def rd_law_pick : DTS :=
  (dRet (dOp ixD (dVar 1) (dCallW 0 sp_next (dCons (dB lenD (dCons (dVar 1) dNil)) dNil))))
def sp_law_pick : Lay.Spec := fun ds R => match ds with
  | [.list xs] => xs ≠ [] ∧ ∀ x ∈ xs, R x
  | [.tuple xs] => xs ≠ [] ∧ ∀ x ∈ xs, R x
  | _ => False
theorem pick_at {xs : List D} {R : D → Prop} (h : ∀ x ∈ xs, R x) {r : Int} (h0 : 0 ≤ r) (h1 : r < xs.length) : optD (atI xs r) R := by
  obtain ⟨x, e1, e2⟩ := atI_at h0 h1
  rw [e2]
  exact h x (List.mem_of_getElem? e1)
theorem ok_law_pick : ∀ ds R, sp_law_pick ds R → rd_law_pick (fnE R) (startW 2 ds) := by
  intro ds R h
  unfold sp_law_pick at h
  split at h
  · rename_i xs
    obtain ⟨hn, h⟩ := h
    have hl := List.length_pos_iff.mpr hn
    unfold rd_law_pick
    simp only [dRet, dOp, dVar, dCallW, dCons, dNil, dB, lenD, sp_next, startW, gt, fnE, List.map_cons, List.map_nil, List.length_cons, List.cons_append, List.nil_append, ixD]
    refine ⟨by omega, fun r h0 h1 _ => ?_⟩
    show ixL xs (.int r) R
    exact pick_at h h0 (by omega)
  · rename_i xs
    obtain ⟨hn, h⟩ := h
    have hl := List.length_pos_iff.mpr hn
    unfold rd_law_pick
    simp only [dRet, dOp, dVar, dCallW, dCons, dNil, dB, lenD, sp_next, startW, gt, fnE, List.map_cons, List.map_nil, List.length_cons, List.cons_append, List.nil_append, ixD]
    refine ⟨by omega, fun r h0 h1 _ => ?_⟩
    show ixL xs (.int r) R
    exact pick_at h h0 (by omega)
  · exact h.elim
local macro_rules | `(tactic| walk_at "d1") => `(tactic| try simp only [dSeq, dSkip, dPass, dRet, dRetN, dDrop, dCond, dAsg, gNm, gTp, dOwn, dOwnL, dPar, dAug, dApp, dExt, dFrz, dFor, dLc, dBreak, dCont, dVar, dC, dOp, dT, dIsi, dNeg, dNot, dTNot, dAnd, dOr, dTAnd, dTOr, dIf, dCh, dNil, dCons, dTup, dLst, dIxO, dB, dCall, dCallW, dItems, dRng1, dRng2, dYes, fnE, startE, startW, startS, dLenO, dLenS, dIxS, dSl, dPt, dNo, wipeE, addD_int, addD_str, addD_tup, addD_lst, subD_int, mulD_int, mulD_tup, mulD_lst, fdivD_int, modD_int, powD_int, shlD_int, shrD_int, andD_int, ltD_int, leD_int, gtD_int, geD_int, eqD_ap, neD_ap, isD_ap, isNotD_ap, isNon_none, isNon_int, isNon_bool, isNon_str, isNon_tup, isNon_lst, isInt_none, isInt_int, isInt_bool, isInt_str, isInt_tup, isInt_lst, isBool_none, isBool_int, isBool_bool, isBool_str, isBool_tup, isBool_lst, isStr_none, isStr_int, isStr_bool, isStr_str, isStr_tup, isStr_lst, isTup_none, isTup_int, isTup_bool, isTup_str, isTup_tup, isTup_lst, isLst_lst, Cnd_true, Cnd_false, Cnd_not, Cnd_dec, asB_bool, forall_const, true_implies, false_implies, implies_true, decide_true, decide_false, Classical.not_not, negD_int, notD_bool, onVal_val, onOwn_own, onDic_dic, onScr_scr, onWv_wv, onInt_int, onTup_tup, onLst_lst, onItems_lst, onItems_tup, frz1_own, frz1_val, frz1_un, ixD_lst, ixD_tup, ixL_int, optD_some, optI_some, absD_int, intD_int, intD_bool, lenD_lst, lenD_tup, lenD_str, tupleD_lst, tupleD_tup, listD_lst, listD_tup, min2D_int, max2D_int, sumD_ints, allD_bls, anyD_bls, slD_lst, slD_tup, slD_str, gNl_nil, gCs_cons, par2_two, seq1_lst, seq1_tup, rng1D_int, rng2D_int, gt_z, gt_s, sp_next_int, set_z, set_s, List.map_cons, List.map_nil, List.length_cons, List.length_nil, List.cons_append, List.nil_append, List.replicate, Nat.reduceAdd, Nat.reduceSub, Nat.zero_add, shaped_int, shaped_bool, shaped_none, shaped_listI, shaped_tupI, shaped_nilL, shaped_nilT, eqv_int, eqv_bool, eqv_str, eqv_none, eqv_list_nil, List.isEmpty_nil, List.isEmpty_cons, Bool.true_eq_false, Bool.false_eq_true, decide_eq_true_eq, and_self, true_and, and_true, not_dec, Bool.not_eq_true', decide_eq_false_iff_not, atI_0, atI_1, atI_2, ite_true, ite_false, if_true, if_false, reduceIte, Bool.not_true, Bool.not_false, not_true_eq_false, not_false_eq_true, List.set_cons_zero, List.set_cons_succ, dPar3, dRev, par3_three, sortedD_ints, revD_tup, two_nat, one_nat, three_nat, dCh3, dOwnC, dPutPar, putPar_two, dZip2, zip2D_lst, zip2D_tup, dPut, isBD_bl, isNotBD_bl, dNewO, dPutO, dSortedO, putKD_int, dPar3O, dParO2, par3O_two, parO2_one, minLD_lst, dKeysW, rdPairs_nil, rdPairs_cons, onPair_ii, revD_lst])
local macro_rules | `(tactic| walk_at "dd") => `(tactic| (walk_at "d1"; repeat (with_reducible (refine then_intro ?_); walk_at "d1")))
def rd_law_common_v1_b1 : DTS :=
  (dPar 0 1 (dCons (dVar 1) (dCons (dOp modD (dB intD (dCons (dVar 0) dNil)) (dVar 1)) dNil)))
def rd_law_common_v1 : DTS :=
  (dSeq (dPar 0 1 (dCons (dB absD (dCons (dVar 0) dNil)) (dCons (dB absD (dCons (dVar 1) dNil)) dNil))) (dSeq (dWhile (dT (dOp neD (dVar 1) (dC (.int 0)))) rd_law_common_v1_b1) (dRet (dVar 0))))
def sp_law_common_v1 : Lay.Spec := fun ds R => match ds with | [.int a, .int b] => R (.int (Int.gcd a b : Nat)) | _ => False
theorem ok_law_common_v1 : ∀ ds R, sp_law_common_v1 ds R → rd_law_common_v1 (fnE R) (startE 2 ds) := by
  intro ds R h
  unfold sp_law_common_v1 at h
  split at h
  · rename_i a b
    unfold rd_law_common_v1
    walk_at "dd"
    refine while_by (fun (s : Nat × Nat) => [.val (.int s.1), .val (.int s.2)]) (fun s => Nat.gcd s.1 s.2 = Int.gcd a b) (fun s => s.2) (a.natAbs, b.natAbs) rfl rfl ?_
    rintro ⟨x, y⟩ hg bk
    walk_at "dd"
    refine And.symm ⟨fun hy => ?_, fun hy => ?_⟩
    · have hy' : 0 < y := by omega
      unfold rd_law_common_v1_b1
      walk_at "dd"
      refine ⟨by omega, (y, x % y), ?_, ?_, Nat.mod_lt _ hy'⟩
      · rw [Int.fmod_eq_emod_of_nonneg _ (by omega)]
        rfl
      · show Nat.gcd y (x % y) = _
        rw [← hg, Nat.gcd_comm y, ← Nat.gcd_rec, Nat.gcd_comm]
    · have : y = 0 := by omega
      subst this
      rw [show x = Int.gcd a b by rw [← hg]; exact (Nat.gcd_zero_right x).symm]
      exact h
  · exact h.elim
theorem spx_law_common_v1 {a b : Int} {R : D → Prop} : sp_law_common_v1 [.int a, .int b] R = R (.int (Int.gcd a b : Nat)) := rfl
local macro_rules | `(tactic| walk_at "d1") => `(tactic| try simp only [dSeq, dSkip, dPass, dRet, dRetN, dDrop, dCond, dAsg, gNm, gTp, dOwn, dOwnL, dPar, dAug, dApp, dExt, dFrz, dFor, dLc, dBreak, dCont, dVar, dC, dOp, dT, dIsi, dNeg, dNot, dTNot, dAnd, dOr, dTAnd, dTOr, dIf, dCh, dNil, dCons, dTup, dLst, dIxO, dB, dCall, dCallW, dItems, dRng1, dRng2, dYes, fnE, startE, startW, startS, dLenO, dLenS, dIxS, dSl, dPt, dNo, wipeE, addD_int, addD_str, addD_tup, addD_lst, subD_int, mulD_int, mulD_tup, mulD_lst, fdivD_int, modD_int, powD_int, shlD_int, shrD_int, andD_int, ltD_int, leD_int, gtD_int, geD_int, eqD_ap, neD_ap, isD_ap, isNotD_ap, isNon_none, isNon_int, isNon_bool, isNon_str, isNon_tup, isNon_lst, isInt_none, isInt_int, isInt_bool, isInt_str, isInt_tup, isInt_lst, isBool_none, isBool_int, isBool_bool, isBool_str, isBool_tup, isBool_lst, isStr_none, isStr_int, isStr_bool, isStr_str, isStr_tup, isStr_lst, isTup_none, isTup_int, isTup_bool, isTup_str, isTup_tup, isTup_lst, isLst_lst, Cnd_true, Cnd_false, Cnd_not, Cnd_dec, asB_bool, forall_const, true_implies, false_implies, implies_true, decide_true, decide_false, Classical.not_not, negD_int, notD_bool, onVal_val, onOwn_own, onDic_dic, onScr_scr, onWv_wv, onInt_int, onTup_tup, onLst_lst, onItems_lst, onItems_tup, frz1_own, frz1_val, frz1_un, ixD_lst, ixD_tup, ixL_int, optD_some, optI_some, absD_int, intD_int, intD_bool, lenD_lst, lenD_tup, lenD_str, tupleD_lst, tupleD_tup, listD_lst, listD_tup, min2D_int, max2D_int, sumD_ints, allD_bls, anyD_bls, slD_lst, slD_tup, slD_str, gNl_nil, gCs_cons, par2_two, seq1_lst, seq1_tup, rng1D_int, rng2D_int, gt_z, gt_s, sp_next_int, set_z, set_s, List.map_cons, List.map_nil, List.length_cons, List.length_nil, List.cons_append, List.nil_append, List.replicate, Nat.reduceAdd, Nat.reduceSub, Nat.zero_add, shaped_int, shaped_bool, shaped_none, shaped_listI, shaped_tupI, shaped_nilL, shaped_nilT, eqv_int, eqv_bool, eqv_str, eqv_none, eqv_list_nil, List.isEmpty_nil, List.isEmpty_cons, Bool.true_eq_false, Bool.false_eq_true, decide_eq_true_eq, and_self, true_and, and_true, not_dec, Bool.not_eq_true', decide_eq_false_iff_not, atI_0, atI_1, atI_2, ite_true, ite_false, if_true, if_false, reduceIte, Bool.not_true, Bool.not_false, not_true_eq_false, not_false_eq_true, List.set_cons_zero, List.set_cons_succ, dPar3, dRev, par3_three, sortedD_ints, revD_tup, two_nat, one_nat, three_nat, dCh3, dOwnC, dPutPar, putPar_two, dZip2, zip2D_lst, zip2D_tup, dPut, isBD_bl, isNotBD_bl, dNewO, dPutO, dSortedO, putKD_int, dPar3O, dParO2, par3O_two, parO2_one, minLD_lst, dKeysW, rdPairs_nil, rdPairs_cons, onPair_ii, revD_lst])
local macro_rules | `(tactic| walk_at "dd") => `(tactic| (walk_at "d1"; repeat (with_reducible (refine then_intro ?_); walk_at "d1")))
abbrev Form := Int × Int × Int
def formD (f : Form) : PyData := .tuple [.int f.1, .int f.2.1, .int f.2.2]
def disc (f : Form) : Int := f.2.1 * f.2.1 - 4 * f.1 * f.2.2
def Red (f : Form) : Prop := -f.1 < f.2.1 ∧ f.2.1 ≤ f.1 ∧ f.1 ≤ f.2.2 ∧ ¬ (f.1 = f.2.2 ∧ f.2.1 < 0)
instance (f : Form) : Decidable (Red f) := inferInstanceAs (Decidable (_ ∧ _ ∧ _ ∧ ¬ (_ ∧ _)))
def shiftF (t : Int) (f : Form) : Form := (f.1, f.2.1 + 2 * t * f.1, f.2.2 + t * f.2.1 + t * t * f.1)
def swapF (f : Form) : Form := (f.2.2, -f.2.1, f.1)
/-- come to by shifts and swaps -/
inductive FEq : Form → Form → Prop
  | refl (f : Form) : FEq f f
  | shift {f g : Form} (t : Int) : FEq f g → FEq f (shiftF t g)
  | swap {f g : Form} : FEq f g → FEq f (swapF g)
theorem disc_shift (t : Int) (f : Form) : disc (shiftF t f) = disc f := by
  unfold disc shiftF
  grind
theorem disc_swap (f : Form) : disc (swapF f) = disc f := by
  unfold disc swapF
  grind
theorem FEq.disc {f g : Form} (h : FEq f g) : disc g = disc f := by
  induction h with
  | refl => rfl
  | shift t _ ih => rw [disc_shift, ih]
  | swap _ ih => rw [disc_swap, ih]
/-- a > 0 and b b - 4 a c < 0: then c > 0 -/
theorem pos_c {f : Form} (ha : 0 < f.1) (hd : disc f < 0) : 0 < f.2.2 := by
  unfold disc at hd
  rcases (show 0 < f.2.2 ∨ f.2.2 ≤ 0 by omega) with h | h
  · exact h
  · have h1 := Int.mul_le_mul_of_nonneg_left h (show 0 ≤ 4 * f.1 by omega)
    have h2 : 0 ≤ f.2.1 * f.2.1 := by
      rcases Int.le_total 0 f.2.1 with z | z
      · exact Int.mul_nonneg z z
      · exact Int.mul_nonneg_of_nonpos_of_nonpos z z
    omega
theorem eqvAll_ints : ∀ xs ys : List Int, PyData.eqvAll (xs.map .int) (ys.map .int) = decide (xs = ys)
  | [], [] => rfl
  | [], _ :: _ => rfl
  | _ :: _, [] => rfl
  | x :: xs, y :: ys => by
    rw [List.map_cons, List.map_cons, PyData.eqvAll, eqv_int, eqvAll_ints xs ys, ← Bool.decide_and]
    exact decide_eq_decide.mpr ⟨fun ⟨a, b⟩ => by rw [a, b], fun e => List.cons.inj e⟩
theorem eqv_tupI (xs ys : List Int) : PyData.eqv (.tuple (xs.map .int)) (.tuple (ys.map .int)) = decide (xs = ys) := by
  rw [PyData.eqv]
  exact eqvAll_ints xs ys
theorem eqv_form (f g : Form) : PyData.eqv (formD f) (formD g) = decide (f = g) := by
  have := eqv_tupI [f.1, f.2.1, f.2.2] [g.1, g.2.1, g.2.2]
  refine Eq.trans this (decide_eq_decide.mpr ⟨fun e => ?_, fun e => by rw [e]⟩)
  simp only [List.cons.injEq, and_true] at e
  exact Prod.ext e.1 (Prod.ext e.2.1 e.2.2)
/-- the forms of d with a given first number, in order of the middle one -/
def cOf (d : Int) (a : Nat) (b : Int) : Int := (b * b - d) / (4 * (a : Int))
def okF (d : Int) (a : Nat) (b : Int) : Bool := decide ((b * b - d) % (4 * (a : Int)) = 0) && decide (Red ((a : Int), b, cOf d a b)) && decide (Nat.gcd (Int.gcd a b) (cOf d a b).natAbs = 1)
def bsOf (a : Nat) : List Int := (List.range (2 * a)).map fun (i : Nat) => -(a : Int) + 1 + (i : Int)
def rowF (d : Int) (a : Nat) (bs : List Int) : List Form := (bs.filter (okF d a)).map fun b => ((a : Int), b, cOf d a b)
def allF (d : Int) (a : Nat) : List Form :=
  if 3 * (a : Int) * a ≤ -d then rowF d a (bsOf a) ++ allF d (a + 1) else []
termination_by (-d).toNat + 1 - a
decreasing_by
  rename_i h
  have h1 : (a : Int) ≤ 3 * (a : Int) * a := by
    rcases Nat.eq_zero_or_pos a with z | z
    · subst z; decide
    · have : 3 * (a : Int) * 1 ≤ 3 * (a : Int) * a := Int.mul_le_mul_of_nonneg_left (by omega) (by omega)
      omega
  omega
theorem allF_more {d : Int} {a : Nat} (h : 3 * (a : Int) * a ≤ -d) : allF d a = rowF d a (bsOf a) ++ allF d (a + 1) := by rw [allF, if_pos h]
theorem allF_stop {d : Int} {a : Nat} (h : ¬ 3 * (a : Int) * a ≤ -d) : allF d a = [] := by rw [allF, if_neg h]
theorem rowF_snoc {d : Int} {a : Nat} {bs : List Int} {b : Int} : rowF d a (bs ++ [b]) = rowF d a bs ++ if okF d a b then [((a : Int), b, cOf d a b)] else [] := by
  unfold rowF
  rw [List.filter_append, List.map_append]
  congr 1
  by_cases h : okF d a b = true
  · rw [if_pos h, List.filter_cons_of_pos h]; rfl
  · rw [if_neg h, List.filter_cons_of_neg h]; rfl
theorem rowF_len (d : Int) (a : Nat) (bs : List Int) : (rowF d a bs).length ≤ bs.length := by
  unfold rowF
  rw [List.length_map]
  exact List.length_filter_le _ _
theorem bsOf_len (a : Nat) : (bsOf a).length = 2 * a := by unfold bsOf; simp
theorem bsOf_take {a t : Nat} (h : t < 2 * a) : (bsOf a).take (t + 1) = (bsOf a).take t ++ [-(a : Int) + 1 + (t : Int)] := by
  refine take_snoc ?_
  unfold bsOf
  rw [List.getElem?_map, List.getElem?_range h]
  rfl
theorem sq_lt {d : Int} {a : Nat} (h : 3 * (a : Int) * a ≤ -d) : a ≤ (-d).toNat := by
  rcases Nat.eq_zero_or_pos a with z | z
  · omega
  · have : 3 * (a : Int) * 1 ≤ 3 * (a : Int) * a := Int.mul_le_mul_of_nonneg_left (by omega) (by omega)
    omega
theorem allF_len (d : Int) (M : Nat) (hM : (-d).toNat ≤ M) : ∀ (n a : Nat), (-d).toNat + 1 - a = n → (allF d a).length ≤ n * (2 * M) := by
  intro n
  induction n with
  | zero =>
    intro a h
    rw [allF_stop (fun z => by have := sq_lt z; omega)]
    exact Nat.zero_le _
  | succ n ih =>
    intro a h
    by_cases z : 3 * (a : Int) * a ≤ -d
    · rw [allF_more z, List.length_append]
      have h1 := rowF_len d a (bsOf a)
      rw [bsOf_len] at h1
      have h2 := ih (a + 1) (by omega)
      have h3 := sq_lt z
      rw [Nat.succ_mul]
      omega
    · rw [allF_stop z]
      exact Nat.zero_le _
def formI (f : Form) : List Int := [f.1, f.2.1, f.2.2]
theorem formD_tup (f : Form) : formD f = tupD (formI f) := rfl
theorem lexI_anti : ∀ {x y : List Int}, x.length = y.length → lexI x y = false → lexI y x = false → x = y
  | [], [], _, _, _ => rfl
  | [], _ :: _, h, _, _ => by simp at h
  | _ :: _, [], h, _, _ => by simp at h
  | a :: x, b :: y, h, h1, h2 => by
    simp only [lexI] at h1 h2
    by_cases e : a = b
    · subst e
      rw [if_pos rfl] at h1 h2
      rw [lexI_anti (by simpa using h) h1 h2]
    · rw [if_neg e, decide_eq_false_iff_not] at h1
      rw [if_neg (fun z => e z.symm), decide_eq_false_iff_not] at h2
      omega
theorem lex_unique {d : Nat} : ∀ {l1 l2 : List (List Int)}, l1.Perm l2 → (∀ x ∈ l1, x.length = d) → l1.Pairwise (fun x y => lexI y x = false) → l2.Pairwise (fun x y => lexI y x = false) → l1 = l2
  | [], l2, h, _, _, _ => by rw [List.nil_perm.mp h]
  | a :: l1, [], h, _, _, _ => by have := h.length_eq; simp at this
  | a :: l1, b :: l2, h, hl, h1, h2 => by
    rw [List.pairwise_cons] at h1 h2
    have m1 : b ∈ a :: l1 := h.mem_iff.mpr List.mem_cons_self
    have m2 : a ∈ b :: l2 := h.mem_iff.mp List.mem_cons_self
    have e : a = b := by
      have lb := hl b m1
      have la := hl a List.mem_cons_self
      rcases List.mem_cons.mp m1 with e | m1
      · exact e.symm
      · rcases List.mem_cons.mp m2 with e | m2
        · exact e
        · exact lexI_anti (by omega) (h2.1 a m2) (h1.1 b m1)
    subst e
    rw [lex_unique (List.perm_cons a |>.mp h) (fun x hx => hl x (List.mem_cons_of_mem _ hx)) h1.2 h2.2]
def unitF (d : Int) : Form := if d % 4 = 0 then (1, 0, -d / 4) else (1, 1, (1 - d) / 4)
theorem allF_first {d : Int} (hd : d < 0) (h4 : d % 4 = 0 ∨ d % 4 = 1) : (allF d 1).filter (fun f => decide (f.1 = 1)) = [unitF d] := by
  have big : ∀ (n a : Nat), (-d).toNat + 1 - a = n → 2 ≤ a → (allF d a).filter (fun f => decide (f.1 = 1)) = [] := by
    intro n
    induction n with
    | zero =>
      intro a h _
      rw [allF_stop (fun z => by have := sq_lt z; omega)]
      rfl
    | succ n ih =>
      intro a h ha
      by_cases z : 3 * (a : Int) * a ≤ -d
      · rw [allF_more z, List.filter_append, ih (a + 1) (by omega) (by omega), List.append_nil, List.filter_eq_nil_iff]
        intro f hf
        unfold rowF at hf
        obtain ⟨b, _, rfl⟩ := List.mem_map.mp hf
        rw [decide_eq_true_eq]
        show ¬ (a : Int) = 1
        omega
      · rw [allF_stop z]
        rfl
  have h3 : 3 * ((1 : Nat) : Int) * ((1 : Nat) : Int) ≤ -d := by
    show 3 * 1 * 1 ≤ -d
    omega
  rw [allF_more h3, List.filter_append, big _ 2 rfl (Nat.le_refl _), List.append_nil]
  have eb : bsOf 1 = [0, 1] := rfl
  rw [eb]
  unfold rowF unitF
  have c0 : cOf d 1 0 = -d / 4 := by
    show (0 - d) / 4 = _
    rw [Int.zero_sub]
  have c1 : cOf d 1 1 = (1 - d) / 4 := rfl
  rcases h4 with h4 | h4
  · have k0 : okF d 1 0 = true := by
      unfold okF
      rw [Bool.and_eq_true, Bool.and_eq_true, decide_eq_true_eq, decide_eq_true_eq, decide_eq_true_eq, c0]
      refine ⟨⟨by show (0 - d) % 4 = 0; omega, ?_, ?_, ?_, ?_⟩, ?_⟩
      · show (-1 : Int) < 0; decide
      · show (0 : Int) ≤ 1; decide
      · show (1 : Int) ≤ -d / 4; omega
      · show ¬ (_ ∧ (0 : Int) < 0); omega
      · exact Nat.gcd_one_left _
    have k1 : okF d 1 1 = false := by
      unfold okF
      rw [Bool.and_eq_false_iff, Bool.and_eq_false_iff]
      exact .inl (.inl (decide_eq_false (by show ¬ (1 - d) % 4 = 0; omega)))
    rw [if_pos h4, List.filter_cons_of_pos k0, List.filter_cons_of_neg (by rw [k1]; decide), ← c0]
    rfl
  · have k0 : okF d 1 0 = false := by
      unfold okF
      rw [Bool.and_eq_false_iff, Bool.and_eq_false_iff]
      exact .inl (.inl (decide_eq_false (by show ¬ (0 - d) % 4 = 0; omega)))
    have k1 : okF d 1 1 = true := by
      unfold okF
      rw [Bool.and_eq_true, Bool.and_eq_true, decide_eq_true_eq, decide_eq_true_eq, decide_eq_true_eq, c1]
      refine ⟨⟨by show (1 - d) % 4 = 0; omega, ?_, ?_, ?_, ?_⟩, ?_⟩
      · show (-1 : Int) < 1; decide
      · show (1 : Int) ≤ 1; decide
      · show (1 : Int) ≤ (1 - d) / 4; omega
      · show ¬ (_ ∧ (1 : Int) < 0); omega
      · exact Nat.gcd_one_left _
    rw [if_neg (by omega), List.filter_cons_of_neg (by rw [k0]; decide), List.filter_cons_of_pos k1, ← c1]
    rfl
local macro_rules | `(tactic| walk_at "d1") => `(tactic| try simp only [dSeq, dSkip, dPass, dRet, dRetN, dDrop, dCond, dAsg, gNm, gTp, dOwn, dOwnL, dPar, dAug, dApp, dExt, dFrz, dFor, dLc, dBreak, dCont, dVar, dC, dOp, dT, dIsi, dNeg, dNot, dTNot, dAnd, dOr, dTAnd, dTOr, dIf, dCh, dNil, dCons, dTup, dLst, dIxO, dB, dCall, dCallW, dItems, dRng1, dRng2, dYes, fnE, startE, startW, startS, dLenO, dLenS, dIxS, dSl, dPt, dNo, wipeE, addD_int, addD_str, addD_tup, addD_lst, subD_int, mulD_int, mulD_tup, mulD_lst, fdivD_int, modD_int, powD_int, shlD_int, shrD_int, andD_int, ltD_int, leD_int, gtD_int, geD_int, eqD_ap, neD_ap, isD_ap, isNotD_ap, isNon_none, isNon_int, isNon_bool, isNon_str, isNon_tup, isNon_lst, isInt_none, isInt_int, isInt_bool, isInt_str, isInt_tup, isInt_lst, isBool_none, isBool_int, isBool_bool, isBool_str, isBool_tup, isBool_lst, isStr_none, isStr_int, isStr_bool, isStr_str, isStr_tup, isStr_lst, isTup_none, isTup_int, isTup_bool, isTup_str, isTup_tup, isTup_lst, isLst_lst, Cnd_true, Cnd_false, Cnd_not, Cnd_dec, asB_bool, forall_const, true_implies, false_implies, implies_true, decide_true, decide_false, Classical.not_not, negD_int, notD_bool, onVal_val, onOwn_own, onDic_dic, onScr_scr, onWv_wv, onInt_int, onTup_tup, onLst_lst, onItems_lst, onItems_tup, frz1_own, frz1_val, frz1_un, ixD_lst, ixD_tup, ixL_int, optD_some, optI_some, absD_int, intD_int, intD_bool, lenD_lst, lenD_tup, lenD_str, tupleD_lst, tupleD_tup, listD_lst, listD_tup, min2D_int, max2D_int, sumD_ints, allD_bls, anyD_bls, slD_lst, slD_tup, slD_str, gNl_nil, gCs_cons, par2_two, seq1_lst, seq1_tup, rng1D_int, rng2D_int, gt_z, gt_s, sp_next_int, set_z, set_s, List.map_cons, List.map_nil, List.length_cons, List.length_nil, List.cons_append, List.nil_append, List.replicate, Nat.reduceAdd, Nat.reduceSub, Nat.zero_add, shaped_int, shaped_bool, shaped_none, shaped_listI, shaped_tupI, shaped_nilL, shaped_nilT, eqv_int, eqv_bool, eqv_str, eqv_none, eqv_list_nil, List.isEmpty_nil, List.isEmpty_cons, Bool.true_eq_false, Bool.false_eq_true, decide_eq_true_eq, and_self, true_and, and_true, not_dec, Bool.not_eq_true', decide_eq_false_iff_not, atI_0, atI_1, atI_2, ite_true, ite_false, if_true, if_false, reduceIte, Bool.not_true, Bool.not_false, not_true_eq_false, not_false_eq_true, List.set_cons_zero, List.set_cons_succ, dPar3, dRev, par3_three, sortedD_ints, revD_tup, two_nat, one_nat, three_nat, dCh3, dOwnC, dPutPar, putPar_two, dZip2, zip2D_lst, zip2D_tup, dPut, isBD_bl, isNotBD_bl, dNewO, dPutO, dSortedO, putKD_int, dPar3O, dParO2, par3O_two, parO2_one, minLD_lst, dKeysW, rdPairs_nil, rdPairs_cons, onPair_ii, revD_lst])
local macro_rules | `(tactic| walk_at "dd") => `(tactic| (walk_at "d1"; repeat (with_reducible (refine then_intro ?_); walk_at "d1")))
def rd_common_b1 : DTS :=
  (dPar 0 1 (dCons (dVar 1) (dCons (dOp modD (dVar 0) (dVar 1)) dNil)))
def rd_common : DTS :=
  (dSeq (dPar 0 1 (dCons (dB absD (dCons (dVar 0) dNil)) (dCons (dB absD (dCons (dVar 1) dNil)) dNil))) (dSeq (dWhile (dT (dOp gtD (dVar 1) (dC (.int 0)))) rd_common_b1) (dRet (dVar 0))))
def sp_common : Lay.Spec := fun ds R => match ds with | [.int a, .int b] => R (.int (Int.gcd a b : Nat)) | _ => False
theorem ok_common : ∀ ds R, sp_common ds R → rd_common (fnE R) (startE 2 ds) := by
  intro ds R h
  unfold sp_common at h
  split at h
  · rename_i a b
    unfold rd_common
    walk_at "dd"
    refine while_by (fun (s : Nat × Nat) => [.val (.int s.1), .val (.int s.2)]) (fun s => Nat.gcd s.1 s.2 = Int.gcd a b) (fun s => s.2) (a.natAbs, b.natAbs) rfl rfl ?_
    rintro ⟨x, y⟩ hg bk
    walk_at "dd"
    refine ⟨fun hy => ?_, fun hy => ?_⟩
    · have hy' : 0 < y := by omega
      unfold rd_common_b1
      walk_at "dd"
      refine ⟨by omega, (y, x % y), ?_, ?_, Nat.mod_lt _ hy'⟩
      · rw [Int.fmod_eq_emod_of_nonneg _ (by omega)]
        rfl
      · show Nat.gcd y (x % y) = _
        rw [← hg, Nat.gcd_comm y, ← Nat.gcd_rec, Nat.gcd_comm]
    · have : y = 0 := by omega
      subst this
      rw [show x = Int.gcd a b by rw [← hg]; exact (Nat.gcd_zero_right x).symm]
      exact h
  · exact h.elim
theorem spx_common {a b : Int} {R : D → Prop} : sp_common [.int a, .int b] R = R (.int (Int.gcd a b : Nat)) := rfl
local macro_rules | `(tactic| walk_at "d1") => `(tactic| try simp only [dSeq, dSkip, dPass, dRet, dRetN, dDrop, dCond, dAsg, gNm, gTp, dOwn, dOwnL, dPar, dAug, dApp, dExt, dFrz, dFor, dLc, dBreak, dCont, dVar, dC, dOp, dT, dIsi, dNeg, dNot, dTNot, dAnd, dOr, dTAnd, dTOr, dIf, dCh, dNil, dCons, dTup, dLst, dIxO, dB, dCall, dCallW, dItems, dRng1, dRng2, dYes, fnE, startE, startW, startS, dLenO, dLenS, dIxS, dSl, dPt, dNo, wipeE, addD_int, addD_str, addD_tup, addD_lst, subD_int, mulD_int, mulD_tup, mulD_lst, fdivD_int, modD_int, powD_int, shlD_int, shrD_int, andD_int, ltD_int, leD_int, gtD_int, geD_int, eqD_ap, neD_ap, isD_ap, isNotD_ap, isNon_none, isNon_int, isNon_bool, isNon_str, isNon_tup, isNon_lst, isInt_none, isInt_int, isInt_bool, isInt_str, isInt_tup, isInt_lst, isBool_none, isBool_int, isBool_bool, isBool_str, isBool_tup, isBool_lst, isStr_none, isStr_int, isStr_bool, isStr_str, isStr_tup, isStr_lst, isTup_none, isTup_int, isTup_bool, isTup_str, isTup_tup, isTup_lst, isLst_lst, Cnd_true, Cnd_false, Cnd_not, Cnd_dec, asB_bool, forall_const, true_implies, false_implies, implies_true, decide_true, decide_false, Classical.not_not, negD_int, notD_bool, onVal_val, onOwn_own, onDic_dic, onScr_scr, onWv_wv, onInt_int, onTup_tup, onLst_lst, onItems_lst, onItems_tup, frz1_own, frz1_val, frz1_un, ixD_lst, ixD_tup, ixL_int, optD_some, optI_some, absD_int, intD_int, intD_bool, lenD_lst, lenD_tup, lenD_str, tupleD_lst, tupleD_tup, listD_lst, listD_tup, min2D_int, max2D_int, sumD_ints, allD_bls, anyD_bls, slD_lst, slD_tup, slD_str, gNl_nil, gCs_cons, par2_two, seq1_lst, seq1_tup, rng1D_int, rng2D_int, gt_z, gt_s, sp_next_int, set_z, set_s, List.map_cons, List.map_nil, List.length_cons, List.length_nil, List.cons_append, List.nil_append, List.replicate, Nat.reduceAdd, Nat.reduceSub, Nat.zero_add, shaped_int, shaped_bool, shaped_none, shaped_listI, shaped_tupI, shaped_nilL, shaped_nilT, eqv_int, eqv_bool, eqv_str, eqv_none, eqv_list_nil, List.isEmpty_nil, List.isEmpty_cons, Bool.true_eq_false, Bool.false_eq_true, decide_eq_true_eq, and_self, true_and, and_true, not_dec, Bool.not_eq_true', decide_eq_false_iff_not, atI_0, atI_1, atI_2, ite_true, ite_false, if_true, if_false, reduceIte, Bool.not_true, Bool.not_false, not_true_eq_false, not_false_eq_true, List.set_cons_zero, List.set_cons_succ, dPar3, dRev, par3_three, sortedD_ints, revD_tup, two_nat, one_nat, three_nat, dCh3, dOwnC, dPutPar, putPar_two, dZip2, zip2D_lst, zip2D_tup, dPut, isBD_bl, isNotBD_bl, dNewO, dPutO, dSortedO, putKD_int, dPar3O, dParO2, par3O_two, parO2_one, minLD_lst, dKeysW, rdPairs_nil, rdPairs_cons, onPair_ii, revD_lst, spx_common])
local macro_rules | `(tactic| walk_at "dd") => `(tactic| (walk_at "d1"; repeat (with_reducible (refine then_intro ?_); walk_at "d1")))
def rd_all_common_b1 : DTS :=
  (dAsg (dCall sp_common (dCons (dVar 1) (dCons (dVar 2) dNil))) (gNm 1))
def rd_all_common : DTS :=
  (dSeq (dAsg (dC (.int 0)) (gNm 1)) (dSeq (dFor (dItems (dVar 0)) (gNm 2) rd_all_common_b1) (dRet (dVar 1))))
def gcdL (ns : List Int) : Nat := ns.foldl (fun g n => Nat.gcd g n.natAbs) 0
theorem gcdL_snoc (l : List Int) (n : Int) : gcdL (l ++ [n]) = Nat.gcd (gcdL l) n.natAbs := by
  unfold gcdL
  rw [List.foldl_append]
  rfl
def sp_all_common : Lay.Spec := fun ds R => match ds with
  | [.tuple es] => ∃ ns : List Int, es = ns.map .int ∧ R (.int (gcdL ns : Nat))
  | [.list es] => ∃ ns : List Int, es = ns.map .int ∧ R (.int (gcdL ns : Nat))
  | _ => False
theorem ok_all_common : ∀ ds R, sp_all_common ds R → rd_all_common (fnE R) (startE 3 ds) := by
  intro ds R h
  unfold sp_all_common at h
  split at h
  · obtain ⟨ns, rfl, h⟩ := h
    unfold rd_all_common
    walk_at "dd"
    refine for_by (fun (s : Nat × Sl) => [.val (.tuple (ns.map .int)), .val (.int s.1), s.2]) (fun t s => s.1 = gcdL (ns.take t)) (0, .un) rfl rfl ?_ ?_
    · rintro t d hd ⟨g, u⟩ hg bk
      simp only at hg
      rw [List.getElem?_map] at hd
      obtain ⟨n, hn, rfl⟩ := Option.map_eq_some_iff.mp hd
      unfold rd_all_common_b1
      walk_at "dd"
      refine ⟨(Int.gcd (g : Int) n, _), rfl, ?_⟩
      rw [take_snoc hn, gcdL_snoc, ← hg]
      rfl
    · rintro ⟨g, u⟩ hg
      simp only [List.length_map, List.take_length] at hg
      walk_at "dd"
      rw [hg]
      exact h
  · obtain ⟨ns, rfl, h⟩ := h
    unfold rd_all_common
    walk_at "dd"
    refine for_by (fun (s : Nat × Sl) => [.val (.list (ns.map .int)), .val (.int s.1), s.2]) (fun t s => s.1 = gcdL (ns.take t)) (0, .un) rfl rfl ?_ ?_
    · rintro t d hd ⟨g, u⟩ hg bk
      simp only at hg
      rw [List.getElem?_map] at hd
      obtain ⟨n, hn, rfl⟩ := Option.map_eq_some_iff.mp hd
      unfold rd_all_common_b1
      walk_at "dd"
      refine ⟨(Int.gcd (g : Int) n, _), rfl, ?_⟩
      rw [take_snoc hn, gcdL_snoc, ← hg]
      rfl
    · rintro ⟨g, u⟩ hg
      simp only [List.length_map, List.take_length] at hg
      walk_at "dd"
      rw [hg]
      exact h
  · exact h.elim
local macro_rules | `(tactic| walk_at "d1") => `(tactic| try simp only [dSeq, dSkip, dPass, dRet, dRetN, dDrop, dCond, dAsg, gNm, gTp, dOwn, dOwnL, dPar, dAug, dApp, dExt, dFrz, dFor, dLc, dBreak, dCont, dVar, dC, dOp, dT, dIsi, dNeg, dNot, dTNot, dAnd, dOr, dTAnd, dTOr, dIf, dCh, dNil, dCons, dTup, dLst, dIxO, dB, dCall, dCallW, dItems, dRng1, dRng2, dYes, fnE, startE, startW, startS, dLenO, dLenS, dIxS, dSl, dPt, dNo, wipeE, addD_int, addD_str, addD_tup, addD_lst, subD_int, mulD_int, mulD_tup, mulD_lst, fdivD_int, modD_int, powD_int, shlD_int, shrD_int, andD_int, ltD_int, leD_int, gtD_int, geD_int, eqD_ap, neD_ap, isD_ap, isNotD_ap, isNon_none, isNon_int, isNon_bool, isNon_str, isNon_tup, isNon_lst, isInt_none, isInt_int, isInt_bool, isInt_str, isInt_tup, isInt_lst, isBool_none, isBool_int, isBool_bool, isBool_str, isBool_tup, isBool_lst, isStr_none, isStr_int, isStr_bool, isStr_str, isStr_tup, isStr_lst, isTup_none, isTup_int, isTup_bool, isTup_str, isTup_tup, isTup_lst, isLst_lst, Cnd_true, Cnd_false, Cnd_not, Cnd_dec, asB_bool, forall_const, true_implies, false_implies, implies_true, decide_true, decide_false, Classical.not_not, negD_int, notD_bool, onVal_val, onOwn_own, onDic_dic, onScr_scr, onWv_wv, onInt_int, onTup_tup, onLst_lst, onItems_lst, onItems_tup, frz1_own, frz1_val, frz1_un, ixD_lst, ixD_tup, ixL_int, optD_some, optI_some, absD_int, intD_int, intD_bool, lenD_lst, lenD_tup, lenD_str, tupleD_lst, tupleD_tup, listD_lst, listD_tup, min2D_int, max2D_int, sumD_ints, allD_bls, anyD_bls, slD_lst, slD_tup, slD_str, gNl_nil, gCs_cons, par2_two, seq1_lst, seq1_tup, rng1D_int, rng2D_int, gt_z, gt_s, sp_next_int, set_z, set_s, List.map_cons, List.map_nil, List.length_cons, List.length_nil, List.cons_append, List.nil_append, List.replicate, Nat.reduceAdd, Nat.reduceSub, Nat.zero_add, shaped_int, shaped_bool, shaped_none, shaped_listI, shaped_tupI, shaped_nilL, shaped_nilT, eqv_int, eqv_bool, eqv_str, eqv_none, eqv_list_nil, List.isEmpty_nil, List.isEmpty_cons, Bool.true_eq_false, Bool.false_eq_true, decide_eq_true_eq, and_self, true_and, and_true, not_dec, Bool.not_eq_true', decide_eq_false_iff_not, atI_0, atI_1, atI_2, ite_true, ite_false, if_true, if_false, reduceIte, Bool.not_true, Bool.not_false, not_true_eq_false, not_false_eq_true, List.set_cons_zero, List.set_cons_succ, dPar3, dRev, par3_three, sortedD_ints, revD_tup, two_nat, one_nat, three_nat, dCh3, dOwnC, dPutPar, putPar_two, dZip2, zip2D_lst, zip2D_tup, dPut, isBD_bl, isNotBD_bl, dNewO, dPutO, dSortedO, putKD_int, dPar3O, dParO2, par3O_two, parO2_one, minLD_lst, dKeysW, rdPairs_nil, rdPairs_cons, onPair_ii, revD_lst])
local macro_rules | `(tactic| walk_at "dd") => `(tactic| (walk_at "d1"; repeat (with_reducible (refine then_intro ?_); walk_at "d1")))
def rd_least_two_b1 : DTS :=
  (dCond (dTNot (dT (dCh ltD leD (dNeg (dVar 1)) (dVar 2) (dVar 1)))) (dSeq (dAsg (dOp fdivD (dOp subD (dVar 1) (dVar 2)) (dOp mulD (dC (.int 2)) (dVar 1))) (gNm 4)) (dSeq (dAsg (dOp addD (dOp addD (dVar 3) (dOp mulD (dVar 4) (dVar 2))) (dOp mulD (dOp mulD (dVar 4) (dVar 4)) (dVar 1))) (gNm 3)) (dAsg (dOp addD (dVar 2) (dOp mulD (dOp mulD (dC (.int 2)) (dVar 4)) (dVar 1))) (gNm 2)))) (dPar3 1 2 3 (dCons (dVar 3) (dCons (dNeg (dVar 2)) (dCons (dVar 1) dNil)))))
def rd_least_two : DTS :=
  (dSeq (dAsg (dVar 0) (gTp 3 (gCs (gNm 1) (gCs (gNm 2) (gCs (gNm 3) gNl))))) (dSeq (dWhile (dTOr (dTNot (dT (dCh3 ltD leD leD (dNeg (dVar 1)) (dVar 2) (dVar 1) (dVar 3)))) (dTAnd (dT (dOp eqD (dVar 1) (dVar 3))) (dT (dOp ltD (dVar 2) (dC (.int 0)))))) rd_least_two_b1) (dRet (dTup (dCons (dVar 1) (dCons (dVar 2) (dCons (dVar 3) dNil)))))))
def sp_least_two : Lay.Spec := fun ds R => match ds with
  | [.tuple [.int a, .int b, .int c]] => (0 < a ∧ disc (a, b, c) < 0 ∧ ∃ k : Nat, k ≤ 1000 ∧ a.natAbs < 2 ^ k ∧ b.natAbs < 2 ^ k ∧ c.natAbs < 2 ^ k) ∧ ∀ g : Form, FEq (a, b, c) g → Red g → (Red (a, b, c) → g = (a, b, c)) → R (formD g)
  | _ => False
structure LeI (f0 : Form) (k : Nat) (f : Form) : Prop where
  a0 : 0 < f.1
  eq : FEq f0 f
  keep : Red f0 → f = f0
  ab : f.1.natAbs < 2 ^ k
  bb : f.2.1.natAbs < 2 ^ k
  cb : f.2.2.natAbs < 2 ^ (2 * k + 4)
def leM (f : Form) : Nat := 4 * f.1.toNat + (if -f.1 < f.2.1 ∧ f.2.1 ≤ f.1 then 0 else 2) + (if f.2.1 < 0 then 1 else 0)
theorem LeI.shift {f0 : Form} {k : Nat} {f : Form} (hd0 : disc f0 < 0) (db : (disc f0).natAbs < 2 ^ (2 * k + 3)) (h : LeI f0 k f) (hn : ¬ (-f.1 < f.2.1 ∧ f.2.1 ≤ f.1)) :
    LeI f0 k (shiftF ((f.1 - f.2.1) / (2 * f.1)) f) ∧ leM (shiftF ((f.1 - f.2.1) / (2 * f.1)) f) < leM f := by
  obtain ⟨a0, eq, keep, ab, bb, cb⟩ := h
  have e := Int.mul_ediv_add_emod (f.1 - f.2.1) (2 * f.1)
  have r0 := Int.emod_nonneg (f.1 - f.2.1) (show 2 * f.1 ≠ 0 by omega)
  have r1 := Int.emod_lt_of_pos (f.1 - f.2.1) (show 0 < 2 * f.1 by omega)
  generalize ht : (f.1 - f.2.1) / (2 * f.1) = t at *
  generalize (f.1 - f.2.1) % (2 * f.1) = r at *
  have hb : (shiftF t f).2.1 = f.1 - r := by
    show f.2.1 + 2 * t * f.1 = f.1 - r
    have : 2 * f.1 * t = 2 * t * f.1 := by grind
    omega
  have hab : (shiftF t f).1 = f.1 := rfl
  have eq' : FEq f0 (shiftF t f) := .shift t eq
  have hd := eq'.disc
  have hc0 := pos_c (f := shiftF t f) (by rw [hab]; exact a0) (by rw [hd]; exact hd0)
  have b1 : (shiftF t f).2.1.natAbs ≤ f.1.natAbs := by rw [hb]; omega
  refine ⟨⟨by rw [hab]; exact a0, eq', fun z => absurd ?_ hn, ab, by omega, ?_⟩, ?_⟩
  · have := keep z
    subst this
    exact ⟨z.1, z.2.1⟩
  · -- the last number
    generalize shiftF t f = g at *
    have h1 : 4 * g.1 * g.2.2 = g.2.1 * g.2.1 - disc f0 := by rw [← hd]; unfold disc; omega
    have h2 : g.2.2 ≤ 4 * g.1 * g.2.2 := by
      have := Int.mul_le_mul_of_nonneg_right (show 1 ≤ 4 * g.1 by omega) (show 0 ≤ g.2.2 by omega)
      omega
    have h3 : (g.2.1 * g.2.1).natAbs < 2 ^ (2 * k) := by
      have := bits_mul (x := g.2.1) (y := g.2.1) (n := k) (m := k) (by omega) (by omega)
      rwa [show k + k = 2 * k by omega] at this
    have e3 : 2 ^ (2 * k + 3) = 2 ^ (2 * k) * 8 := Nat.pow_add 2 (2 * k) 3
    have e4 : 2 ^ (2 * k + 4) = 2 ^ (2 * k) * 16 := Nat.pow_add 2 (2 * k) 4
    rw [e3] at db
    rw [e4]
    generalize 2 ^ (2 * k) = T at *
    generalize g.2.1 * g.2.1 = B at *
    generalize 4 * g.1 * g.2.2 = C at *
    omega
  · unfold leM
    rw [hab, if_neg hn, hb, if_pos (by omega)]
    split <;> split <;> omega
theorem LeI.swap {f0 : Form} {k : Nat} {f : Form} (hd0 : disc f0 < 0) (h : LeI f0 k f) (hy : -f.1 < f.2.1 ∧ f.2.1 ≤ f.1) (hn : ¬ Red f) : LeI f0 k (swapF f) ∧ leM (swapF f) < leM f := by
  obtain ⟨a0, eq, keep, ab, bb, cb⟩ := h
  have hd := eq.disc
  have hc0 := pos_c a0 (by rw [hd]; exact hd0)
  have hcase : f.2.2 < f.1 ∨ (f.1 = f.2.2 ∧ f.2.1 < 0) := by
    by_cases z : f.1 ≤ f.2.2
    · right
      by_cases z2 : f.1 = f.2.2 ∧ f.2.1 < 0
      · exact z2
      · exact absurd ⟨hy.1, hy.2, z, z2⟩ hn
    · left; omega
  have pk : 2 ^ k ≤ 2 ^ (2 * k + 4) := Nat.pow_le_pow_right (by decide) (by omega)
  have s1 : (swapF f).1 = f.2.2 := rfl
  have s2 : (swapF f).2.1 = -f.2.1 := rfl
  have s3 : (swapF f).2.2 = f.1 := rfl
  refine ⟨⟨by rw [s1]; exact hc0, .swap eq, fun z => absurd (by have := keep z; subst this; exact z) hn, by rw [s1]; omega, by rw [s2]; omega, by rw [s3]; omega⟩, ?_⟩
  unfold leM
  rw [s1, s2, if_pos hy]
  rcases hcase with h | ⟨h1, h2⟩
  · split <;> split <;> split <;> omega
  · rw [if_pos (by omega), if_neg (by omega), if_pos h2]
    omega
theorem chain_and {A B X Y : Prop} (hx : A → B → X) (hy : ¬ (A ∧ B) → Y) : (A → (B → X) ∧ (¬ B → Y)) ∧ (¬ A → Y) :=
  ⟨fun a => ⟨hx a, fun b => hy fun z => b z.2⟩, fun a => hy fun z => a z.1⟩
theorem ok_least_two : ∀ ds R, sp_least_two ds R → rd_least_two (fnE R) (startE 5 ds) := by
  intro ds R h
  unfold sp_least_two at h
  split at h
  · rename_i a b c
    obtain ⟨⟨ha, hd, k, hk, ab, bb, cb⟩, h⟩ := h
    have db : (disc (a, b, c)).natAbs < 2 ^ (2 * k + 3) := by
      have h1 := bits_mul bb bb
      have h2 := bits_mul (bits_mul (x := 4) (n := 3) (by decide) ab) cb
      have e1 : 2 ^ (2 * k + 3) = 2 ^ (2 * k) * 8 := Nat.pow_add 2 (2 * k) 3
      have e3 : 2 ^ (3 + k + k) = 2 ^ (2 * k) * 8 := by rw [show 3 + k + k = 2 * k + 3 by omega]; exact e1
      have e2 : 2 ^ (k + k) = 2 ^ (2 * k) := by rw [show k + k = 2 * k by omega]
      rw [e2] at h1
      have ac : 0 < c := pos_c (f := (a, b, c)) ha hd
      have h4 : (4 * a * c).natAbs < 2 ^ (2 * k) * 4 := by
        have := bits_mul ab cb
        rw [e2] at this
        rw [Int.mul_assoc, Int.natAbs_mul]
        show 4 * (a * c).natAbs < _
        omega
      have hpos : 0 ≤ b * b := by
        rcases Int.le_total 0 b with z | z
        · exact Int.mul_nonneg z z
        · exact Int.mul_nonneg_of_nonpos_of_nonpos z z
      have hdd : disc (a, b, c) = b * b - 4 * a * c := rfl
      rw [hdd] at hd ⊢
      rw [e1]
      generalize 2 ^ (2 * k) = T at *
      generalize b * b = B at *
      generalize 4 * a * c = C at *
      omega
    have hLe0 : LeI (a, b, c) k (a, b, c) := ⟨ha, .refl _, fun _ => rfl, ab, bb, bits_mono cb (by omega)⟩
    unfold rd_least_two
    walk_at "dd"
    refine while_by (fun (s : Form × Sl) => [.val (.tuple [.int a, .int b, .int c]), .val (.int s.1.1), .val (.int s.1.2.1), .val (.int s.1.2.2), s.2]) (fun s => LeI (a, b, c) k s.1) (fun s => leM s.1) ((a, b, c), .un) rfl hLe0 ?_
    rintro ⟨f, u⟩ hi bk
    simp only at hi
    have turn : ¬ Red f → rd_least_two_b1 { nx := fun en' => ∃ a' : Form × Sl, en' = [.val (.tuple [.int a, .int b, .int c]), .val (.int a'.1.1), .val (.int a'.1.2.1), .val (.int a'.1.2.2), a'.2] ∧ LeI (a, b, c) k a'.1 ∧ leM a'.1 < leM f, rt := R, bk := bk, ct := fun en' => ∃ a' : Form × Sl, en' = [.val (.tuple [.int a, .int b, .int c]), .val (.int a'.1.1), .val (.int a'.1.2.1), .val (.int a'.1.2.2), a'.2] ∧ LeI (a, b, c) k a'.1 ∧ leM a'.1 < leM f }
        [.val (.tuple [.int a, .int b, .int c]), .val (.int f.1), .val (.int f.2.1), .val (.int f.2.2), u] := fun hn => by
      have shift : ¬ (-f.1 < f.2.1 ∧ f.2.1 ≤ f.1) → _ := fun z => hi.shift hd db z
      unfold rd_least_two_b1
      walk_at "dd"
      refine chain_and (fun h1 h2 => ?_) fun h1 => ?_
      · obtain ⟨s1, s2⟩ := hi.swap hd ⟨h1, h2⟩ hn
        exact ⟨(swapF f, u), rfl, s1, s2⟩
      · have a0 := hi.a0
        obtain ⟨s1, s2⟩ := shift h1
        have b2 := bits_mul (x := 2) (n := 2) (by decide) hi.ab
        have bd : (f.1 - f.2.1).natAbs < 2 ^ (k + k + 1) := by
          have := bits_add hi.ab (y := -f.2.1) (m := k) (by rw [Int.natAbs_neg]; exact hi.bb)
          rwa [← Int.sub_eq_add_neg] at this
        have bq : ((f.1 - f.2.1) / (2 * f.1)).natAbs < 2 ^ (k + k + 1) := Nat.lt_of_le_of_lt (Int.natAbs_ediv_le_natAbs _ _) bd
        refine ⟨mulOk (x := 2) (n := 2) (by decide) hi.ab (by omega), divOk (by omega) b2 (by omega), ?_⟩
        rw [fdiv_pos _ (by omega)]
        generalize hq : (f.1 - f.2.1) / (2 * f.1) = t at *
        have bt2 := bits_mul bq bq
        have b2t := bits_mul (x := 2) (n := 2) (by decide) bq
        walk_at "dd"
        refine ⟨mulOk bq hi.bb (by omega), mulOk bq bq (by omega), mulOk bt2 hi.ab (by omega), ?_⟩
        walk_at "dd"
        exact ⟨mulOk (x := 2) (n := 2) (by decide) bq (by omega), mulOk b2t hi.ab (by omega), (shiftF t f, .val (.int t)), rfl, s1, s2⟩
    have stop : Red f → R (formD f) := fun hr => h f hi.eq hr hi.keep
    have stopT : Red f → Then (dRet (dTup (dCons (dVar 1) (dCons (dVar 2) (dCons (dVar 3) dNil))))) { nx := fun x => R PyData.none, rt := R } [.val (.tuple [.int a, .int b, .int c]), .val (.int f.1), .val (.int f.2.1), .val (.int f.2.2), u] := fun hr => by
      refine then_intro ?_
      walk_at "dd"
      exact stop hr
    walk_at "dd"
    refine ⟨fun h1 => ⟨fun h2 => ⟨fun h3 => ⟨fun h4 => ⟨fun h5 => turn ?_, fun h5 => stopT ?_⟩, fun h4 => stopT ?_⟩, fun h3 => turn ?_⟩, fun h2 => turn ?_⟩, fun h1 => turn ?_⟩ <;> unfold Red <;> omega
  · exact h.elim
theorem spx_least_two {a b c : Int} {R : D → Prop} : sp_least_two [.tuple [.int a, .int b, .int c]] R = ((0 < a ∧ disc (a, b, c) < 0 ∧ ∃ k : Nat, k ≤ 1000 ∧ a.natAbs < 2 ^ k ∧ b.natAbs < 2 ^ k ∧ c.natAbs < 2 ^ k) ∧ ∀ g : Form, FEq (a, b, c) g → Red g → (Red (a, b, c) → g = (a, b, c)) → R (formD g)) := rfl
local macro_rules | `(tactic| walk_at "d1") => `(tactic| try simp only [dSeq, dSkip, dPass, dRet, dRetN, dDrop, dCond, dAsg, gNm, gTp, dOwn, dOwnL, dPar, dAug, dApp, dExt, dFrz, dFor, dLc, dBreak, dCont, dVar, dC, dOp, dT, dIsi, dNeg, dNot, dTNot, dAnd, dOr, dTAnd, dTOr, dIf, dCh, dNil, dCons, dTup, dLst, dIxO, dB, dCall, dCallW, dItems, dRng1, dRng2, dYes, fnE, startE, startW, startS, dLenO, dLenS, dIxS, dSl, dPt, dNo, wipeE, addD_int, addD_str, addD_tup, addD_lst, subD_int, mulD_int, mulD_tup, mulD_lst, fdivD_int, modD_int, powD_int, shlD_int, shrD_int, andD_int, ltD_int, leD_int, gtD_int, geD_int, eqD_ap, neD_ap, isD_ap, isNotD_ap, isNon_none, isNon_int, isNon_bool, isNon_str, isNon_tup, isNon_lst, isInt_none, isInt_int, isInt_bool, isInt_str, isInt_tup, isInt_lst, isBool_none, isBool_int, isBool_bool, isBool_str, isBool_tup, isBool_lst, isStr_none, isStr_int, isStr_bool, isStr_str, isStr_tup, isStr_lst, isTup_none, isTup_int, isTup_bool, isTup_str, isTup_tup, isTup_lst, isLst_lst, Cnd_true, Cnd_false, Cnd_not, Cnd_dec, asB_bool, forall_const, true_implies, false_implies, implies_true, decide_true, decide_false, Classical.not_not, negD_int, notD_bool, onVal_val, onOwn_own, onDic_dic, onScr_scr, onWv_wv, onInt_int, onTup_tup, onLst_lst, onItems_lst, onItems_tup, frz1_own, frz1_val, frz1_un, ixD_lst, ixD_tup, ixL_int, optD_some, optI_some, absD_int, intD_int, intD_bool, lenD_lst, lenD_tup, lenD_str, tupleD_lst, tupleD_tup, listD_lst, listD_tup, min2D_int, max2D_int, sumD_ints, allD_bls, anyD_bls, slD_lst, slD_tup, slD_str, gNl_nil, gCs_cons, par2_two, seq1_lst, seq1_tup, rng1D_int, rng2D_int, gt_z, gt_s, sp_next_int, set_z, set_s, List.map_cons, List.map_nil, List.length_cons, List.length_nil, List.cons_append, List.nil_append, List.replicate, Nat.reduceAdd, Nat.reduceSub, Nat.zero_add, shaped_int, shaped_bool, shaped_none, shaped_listI, shaped_tupI, shaped_nilL, shaped_nilT, eqv_int, eqv_bool, eqv_str, eqv_none, eqv_list_nil, List.isEmpty_nil, List.isEmpty_cons, Bool.true_eq_false, Bool.false_eq_true, decide_eq_true_eq, and_self, true_and, and_true, not_dec, Bool.not_eq_true', decide_eq_false_iff_not, atI_0, atI_1, atI_2, ite_true, ite_false, if_true, if_false, reduceIte, Bool.not_true, Bool.not_false, not_true_eq_false, not_false_eq_true, List.set_cons_zero, List.set_cons_succ, dPar3, dRev, par3_three, sortedD_ints, revD_tup, two_nat, one_nat, three_nat, dCh3, dOwnC, dPutPar, putPar_two, dZip2, zip2D_lst, zip2D_tup, dPut, isBD_bl, isNotBD_bl, dNewO, dPutO, dSortedO, putKD_int, dPar3O, dParO2, par3O_two, parO2_one, minLD_lst, dKeysW, rdPairs_nil, rdPairs_cons, onPair_ii, revD_lst, spx_common, spx_least_two])
local macro_rules | `(tactic| walk_at "dd") => `(tactic| (walk_at "d1"; repeat (with_reducible (refine then_intro ?_); walk_at "d1")))
def rd_all_two_b1 : DTS :=
  (dCond (dT (dOp eqD (dOp modD (dOp subD (dOp mulD (dVar 3) (dVar 3)) (dVar 0)) (dOp mulD (dC (.int 4)) (dVar 2))) (dC (.int 0)))) (dSeq (dAsg (dTup (dCons (dVar 2) (dCons (dVar 3) (dCons (dOp fdivD (dOp subD (dOp mulD (dVar 3) (dVar 3)) (dVar 0)) (dOp mulD (dC (.int 4)) (dVar 2))) dNil)))) (gNm 4)) (dCond (dTAnd (dT (dOp eqD (dCall sp_all_common (dCons (dVar 4) dNil)) (dC (.int 1)))) (dT (dOp eqD (dCall sp_least_two (dCons (dVar 4) dNil)) (dVar 4)))) (dApp 1 (dVar 4)) dSkip)) dSkip)
def rd_all_two_b2 : DTS :=
  (dSeq (dFor (dRng2 (dCons (dOp addD (dNeg (dVar 2)) (dC (.int 1))) (dCons (dOp addD (dVar 2) (dC (.int 1))) dNil))) (gNm 3) rd_all_two_b1) (dAug 2 (fun i j => i + j) (dC (.int 1))))
def rd_all_two : DTS :=
  (dSeq (dOwn 1 dNil) (dSeq (dAsg (dC (.int 1)) (gNm 2)) (dSeq (dWhile (dT (dOp leD (dOp mulD (dOp mulD (dC (.int 3)) (dVar 2)) (dVar 2)) (dNeg (dVar 0)))) rd_all_two_b2) (dFrz 1 (dRet (dB tupleD (dCons (dB sortedTD (dCons (dVar 1) dNil)) dNil)))))))
def sp_all_two : Lay.Spec := fun ds R => match ds with
  | [.int d] => (d < 0 ∧ d.natAbs ≤ 2000) ∧ ∀ ms : List (List Int), ms.Perm ((allF d 1).map formI) → ms.Pairwise (fun x y => lexI y x = false) → R (.tuple (ms.map tupD))
  | _ => False
theorem shaped_form (f : Form) : SeqAt.shaped (formD f) = true := shaped_tupI [f.1, f.2.1, f.2.2]
theorem form_bound {d : Int} {a : Nat} {b : Int} (hd : d.natAbs ≤ 2000) (h3 : 3 * (a : Int) * a ≤ -d) (hb : b.natAbs ≤ a) (a0 : 0 < a) : (b * b).natAbs ≤ 4000000 ∧ (b * b - d).natAbs ≤ 4002000 ∧ (cOf d a b).natAbs ≤ 4002000 := by
  have ha := sq_lt h3
  have h1 : (b * b).natAbs ≤ 2000 * 2000 := mul_le_nat (by omega) (by omega)
  have h2 : (b * b - d).natAbs ≤ 4002000 := by omega
  refine ⟨by omega, h2, ?_⟩
  have := Int.natAbs_ediv_le_natAbs (b * b - d) (4 * (a : Int))
  unfold cOf
  omega
theorem form_disc {d : Int} {a : Nat} {b : Int} (a0 : 0 < a) (h : (b * b - d) % (4 * (a : Int)) = 0) : disc ((a : Int), b, cOf d a b) = d := by
  have := Int.mul_ediv_add_emod (b * b - d) (4 * (a : Int))
  rw [h] at this
  show b * b - 4 * (a : Int) * ((b * b - d) / (4 * (a : Int))) = d
  omega
theorem ok_all_two : ∀ ds R, sp_all_two ds R → rd_all_two (fnE R) (startE 5 ds) := by
  intro ds R h
  unfold sp_all_two at h
  split at h
  · rename_i d
    obtain ⟨⟨d0, hd⟩, h⟩ := h
    have hsz : 16100000 ≤ sizeLine := by decide
    have hp62 : (10000 : Int) < 2 ^ 62 := by decide
    have hm62 : -(2 : Int) ^ 62 ≤ -10000 := by decide
    have hlen := allF_len d 2000 (by omega) 2000
    have hfull : (allF d 1).length ≤ 8000000 := by
      have := allF_len d 2000 (by omega) ((-d).toNat + 1 - 1) 1 rfl
      have h2 : ((-d).toNat + 1 - 1) * (2 * 2000) ≤ 2000 * (2 * 2000) := Nat.mul_le_mul_right _ (by omega)
      omega
    unfold rd_all_two
    walk_at "dd"
    refine while_by (fun (s : List Form × Nat × Sl × Sl) => [.val (.int d), .own (s.1.map formD), .val (.int s.2.1), s.2.2.1, s.2.2.2]) (fun s => s.1 ++ allF d s.2.1 = allF d 1 ∧ 0 < s.2.1 ∧ s.2.1 ≤ 2001) (fun s => (-d).toNat + 1 - s.2.1) ([], 1, .un, .un) rfl ⟨rfl, Nat.one_pos, (by decide : 1 ≤ 2001)⟩ ?_
    rintro ⟨fs, a, u3, u4⟩ ⟨hf, a0, a2⟩ bk
    simp only at hf a0 a2
    have turn : 3 * (a : Int) * a ≤ -d → rd_all_two_b2 { nx := fun en' => ∃ a' : List Form × Nat × Sl × Sl, en' = [.val (.int d), .own (a'.1.map formD), .val (.int a'.2.1), a'.2.2.1, a'.2.2.2] ∧ (a'.1 ++ allF d a'.2.1 = allF d 1 ∧ 0 < a'.2.1 ∧ a'.2.1 ≤ 2001) ∧ (-d).toNat + 1 - a'.2.1 < (-d).toNat + 1 - a, rt := R, bk := bk, ct := fun en' => ∃ a' : List Form × Nat × Sl × Sl, en' = [.val (.int d), .own (a'.1.map formD), .val (.int a'.2.1), a'.2.2.1, a'.2.2.2] ∧ (a'.1 ++ allF d a'.2.1 = allF d 1 ∧ 0 < a'.2.1 ∧ a'.2.1 ≤ 2001) ∧ (-d).toNat + 1 - a'.2.1 < (-d).toNat + 1 - a } [.val (.int d), .own (fs.map formD), .val (.int a), u3, u4] := fun h3 => by
      have ha := sq_lt h3
      rw [allF_more h3] at hf
      have hl2 := congrArg List.length hf
      rw [List.length_append, List.length_append] at hl2
      unfold rd_all_two_b2
      walk_at "dd"
      refine ⟨by omega, ?_⟩
      rw [show (a : Int) + 1 - (-(a : Int) + 1) = ((2 * a : Nat) : Int) by omega, Int.toNat_natCast]
      refine for_by (fun (s : List Form × Sl × Sl) => [.val (.int d), .own (s.1.map formD), .val (.int a), s.2.1, s.2.2]) (fun t s => s.1 = fs ++ rowF d a ((bsOf a).take t)) (fs, u3, u4) rfl (by show fs = fs ++ []; rw [List.append_nil]) ?_ ?_
      · rintro t e he ⟨gs, v3, v4⟩ hg bk2
        simp only at hg
        obtain ⟨ht, rfl⟩ := rangeD_get he
        have et := bsOf_take ht
        rw [show -(a : Int) + 1 + (t : Int) = -(a : Int) + 1 + (t : Int) from rfl]
        generalize hb : -(a : Int) + 1 + (t : Int) = b at *
        have hba : b.natAbs ≤ a := by omega
        obtain ⟨q1, q2, q3⟩ := form_bound hd h3 hba a0
        have hs : 10000000 ≤ 2 ^ 25 := by decide
        have mono : ∀ x : Form, okF d a b = true → (gs ++ [x]).length ≤ 8000001 := fun x hx => by
          have h1 : (rowF d a ((bsOf a).take t)).length ≤ (rowF d a (bsOf a)).length := by
            unfold rowF
            rw [List.length_map, List.length_map]
            exact (List.Sublist.filter _ (List.take_sublist t _)).length_le
          rw [List.length_append, hg, List.length_append]
          simp only [List.length_cons, List.length_nil]
          omega
        have done : ∀ (hk : okF d a b = false) (w4 : Sl), ∃ a' : List Form × Sl × Sl, [Sl.val (.int d), .own (gs.map formD), .val (.int a), .val (.int b), w4] = [Sl.val (.int d), .own (a'.1.map formD), .val (.int a), a'.2.1, a'.2.2] ∧ a'.1 = fs ++ rowF d a ((bsOf a).take (t + 1)) := fun hk w4 => by
          refine ⟨(gs, _, _), rfl, ?_⟩
          rw [et, rowF_snoc, hk, hg]
          simp
        unfold rd_all_two_b1
        walk_at "dd"
        rw [fmod_pos _ (show (0 : Int) < 4 * (a : Int) by omega)]
        have a1 : (4 * (a : Int)).natAbs < 2 ^ 25 := by omega
        refine ⟨mulOk (n := 25) (m := 25) (by omega) (by omega) (by decide), mulOk (x := 4) (n := 3) (m := 25) (by decide) (by omega) (by decide), by omega, fun z => ?_, fun z => done ?_ _⟩
        · refine ⟨mulOk (n := 25) (m := 25) (by omega) (by omega) (by decide), mulOk (x := 4) (n := 3) (m := 25) (by decide) (by omega) (by decide), divOk (n := 25) (by omega) (by omega) (by decide), then_intro ?_⟩
          rw [fdiv_pos _ (show (0 : Int) < 4 * (a : Int) by omega)]
          rw [show (b * b - d) / (4 * (a : Int)) = cOf d a b from rfl]
          have hdc := form_disc a0 z
          have hz : decide ((b * b - d) % (4 * (a : Int)) = 0) = true := decide_eq_true z
          generalize hcc : cOf d a b = c at *
          walk_at "dd"
          refine ⟨[(a : Int), b, c], rfl, ?_⟩
          have eg : gcdL [(a : Int), b, c] = Nat.gcd (Int.gcd a b) c.natAbs := by
            show Nat.gcd (Nat.gcd (Nat.gcd 0 (a : Int).natAbs) b.natAbs) c.natAbs = _
            rw [Nat.gcd_zero_left]
            rfl
          rw [eg]
          walk_at "dd"
          have hok : okF d a b = (decide (Red ((a : Int), b, c)) && decide (Nat.gcd (Int.gcd a b) c.natAbs = 1)) := by
            unfold okF
            rw [hz, hcc, Bool.true_and]
          refine ⟨fun eg => ⟨⟨by omega, by rw [hdc]; exact d0, 25, by decide, by omega, by omega, by omega⟩, fun g e1 e2 e3 => ⟨⟨shaped_form g, shaped_form ((a : Int), b, c)⟩, ?_⟩⟩, fun eg => done ?_ _⟩
          · rw [show PyData.tuple [.int a, .int b, .int c] = formD ((a : Int), b, c) from rfl, eqv_form]
            have hgc : Nat.gcd (Int.gcd a b) c.natAbs = 1 := by omega
            rw [decide_eq_true hgc, Bool.and_true] at hok
            by_cases r : Red ((a : Int), b, c)
            · rw [e3 r, decide_eq_true rfl]
              rw [decide_eq_true r] at hok
              have hm := mono ((a : Int), b, c) hok
              rw [List.length_append, List.length_singleton] at hm
              show _ ∧ _
              refine ⟨by rw [List.length_map]; omega, (gs ++ [((a : Int), b, c)], _, _), by rw [List.map_append]; rfl, ?_⟩
              rw [et, rowF_snoc, hok, if_pos rfl, hg, List.append_assoc, hcc]
            · rw [decide_eq_false r] at hok
              rw [decide_eq_false (fun z => r (by rw [← z]; exact e2))]
              exact done hok _
          · have hgn : ¬ Nat.gcd (Int.gcd a b) c.natAbs = 1 := fun w => eg (by omega)
            rw [hok, decide_eq_false hgn, Bool.and_false]
        · unfold okF
          rw [decide_eq_false z]
          rfl
      · rintro ⟨gs, v3, v4⟩ hg
        rw [rangeD_length] at hg
        simp only at hg
        walk_at "dd"
        rw [List.take_of_length_le (by rw [bsOf_len]; omega)] at hg
        refine ⟨(gs, a + 1, _, _), rfl, ⟨?_, by show 0 < a + 1; omega, by show a + 1 ≤ 2001; omega⟩, by show (-d).toNat + 1 - (a + 1) < _; omega⟩
        show gs ++ allF d (a + 1) = _
        rw [hg, List.append_assoc, hf]
    have stop : ¬ 3 * (a : Int) * a ≤ -d → fs = allF d 1 := fun h3 => by
      rw [allF_stop h3, List.append_nil] at hf
      exact hf
    walk_at "dd"
    refine ⟨mulOk (x := 3) (n := 3) (m := 25) (by decide) ?_ (by decide), mulOk (n := 28) (m := 25) ?_ ?_ (by decide), turn, fun z => ?_⟩
    · omega
    · exact bits_mul (x := 3) (n := 3) (m := 25) (by decide) (by omega)
    · omega
    · have := stop z
      subst this
      walk_at "dd"
      refine ⟨(allF d 1).map formI, 3, by rw [List.map_map]; rfl, by decide, fun n hn => by obtain ⟨f, _, rfl⟩ := List.mem_map.mp hn; rfl, fun ms h1 h2 => ?_⟩
      walk_at "dd"
      exact h ms h1 h2
  · exact h.elim
theorem spx_all_two {d : Int} {R : D → Prop} : sp_all_two [.int d] R = ((d < 0 ∧ d.natAbs ≤ 2000) ∧ ∀ ms : List (List Int), ms.Perm ((allF d 1).map formI) → ms.Pairwise (fun x y => lexI y x = false) → R (.tuple (ms.map tupD))) := rfl
local macro_rules | `(tactic| walk_at "d1") => `(tactic| try simp only [dSeq, dSkip, dPass, dRet, dRetN, dDrop, dCond, dAsg, gNm, gTp, dOwn, dOwnL, dPar, dAug, dApp, dExt, dFrz, dFor, dLc, dBreak, dCont, dVar, dC, dOp, dT, dIsi, dNeg, dNot, dTNot, dAnd, dOr, dTAnd, dTOr, dIf, dCh, dNil, dCons, dTup, dLst, dIxO, dB, dCall, dCallW, dItems, dRng1, dRng2, dYes, fnE, startE, startW, startS, dLenO, dLenS, dIxS, dSl, dPt, dNo, wipeE, addD_int, addD_str, addD_tup, addD_lst, subD_int, mulD_int, mulD_tup, mulD_lst, fdivD_int, modD_int, powD_int, shlD_int, shrD_int, andD_int, ltD_int, leD_int, gtD_int, geD_int, eqD_ap, neD_ap, isD_ap, isNotD_ap, isNon_none, isNon_int, isNon_bool, isNon_str, isNon_tup, isNon_lst, isInt_none, isInt_int, isInt_bool, isInt_str, isInt_tup, isInt_lst, isBool_none, isBool_int, isBool_bool, isBool_str, isBool_tup, isBool_lst, isStr_none, isStr_int, isStr_bool, isStr_str, isStr_tup, isStr_lst, isTup_none, isTup_int, isTup_bool, isTup_str, isTup_tup, isTup_lst, isLst_lst, Cnd_true, Cnd_false, Cnd_not, Cnd_dec, asB_bool, forall_const, true_implies, false_implies, implies_true, decide_true, decide_false, Classical.not_not, negD_int, notD_bool, onVal_val, onOwn_own, onDic_dic, onScr_scr, onWv_wv, onInt_int, onTup_tup, onLst_lst, onItems_lst, onItems_tup, frz1_own, frz1_val, frz1_un, ixD_lst, ixD_tup, ixL_int, optD_some, optI_some, absD_int, intD_int, intD_bool, lenD_lst, lenD_tup, lenD_str, tupleD_lst, tupleD_tup, listD_lst, listD_tup, min2D_int, max2D_int, sumD_ints, allD_bls, anyD_bls, slD_lst, slD_tup, slD_str, gNl_nil, gCs_cons, par2_two, seq1_lst, seq1_tup, rng1D_int, rng2D_int, gt_z, gt_s, sp_next_int, set_z, set_s, List.map_cons, List.map_nil, List.length_cons, List.length_nil, List.cons_append, List.nil_append, List.replicate, Nat.reduceAdd, Nat.reduceSub, Nat.zero_add, shaped_int, shaped_bool, shaped_none, shaped_listI, shaped_tupI, shaped_nilL, shaped_nilT, eqv_int, eqv_bool, eqv_str, eqv_none, eqv_list_nil, List.isEmpty_nil, List.isEmpty_cons, Bool.true_eq_false, Bool.false_eq_true, decide_eq_true_eq, and_self, true_and, and_true, not_dec, Bool.not_eq_true', decide_eq_false_iff_not, atI_0, atI_1, atI_2, ite_true, ite_false, if_true, if_false, reduceIte, Bool.not_true, Bool.not_false, not_true_eq_false, not_false_eq_true, List.set_cons_zero, List.set_cons_succ, dPar3, dRev, par3_three, sortedD_ints, revD_tup, two_nat, one_nat, three_nat, dCh3, dOwnC, dPutPar, putPar_two, dZip2, zip2D_lst, zip2D_tup, dPut, isBD_bl, isNotBD_bl, dNewO, dPutO, dSortedO, putKD_int, dPar3O, dParO2, par3O_two, parO2_one, minLD_lst, dKeysW, rdPairs_nil, rdPairs_cons, onPair_ii, revD_lst, spx_common, spx_least_two, spx_all_two, spx_law_common_v1])
local macro_rules | `(tactic| walk_at "dd") => `(tactic| (walk_at "d1"; repeat (with_reducible (refine then_intro ?_); walk_at "d1")))
def rd_law_all_b1 : DTS :=
  (dCond (dT (dOp eqD (dOp modD (dB intD (dCons (dOp subD (dOp mulD (dVar 3) (dVar 3)) (dVar 0)) dNil)) (dOp mulD (dC (.int 4)) (dVar 2))) (dC (.int 0)))) (dSeq (dAsg (dOp fdivD (dOp subD (dOp mulD (dVar 3) (dVar 3)) (dVar 0)) (dOp mulD (dC (.int 4)) (dVar 2))) (gNm 4)) (dCond (dTAnd (dT (dOp geD (dVar 4) (dVar 2))) (dTAnd (dTOr (dT (dOp geD (dVar 3) (dC (.int 0)))) (dT (dOp neD (dVar 2) (dVar 4)))) (dT (dOp eqD (dCall sp_law_common_v1 (dCons (dCall sp_law_common_v1 (dCons (dVar 2) (dCons (dVar 3) dNil))) (dCons (dVar 4) dNil))) (dC (.int 1)))))) (dApp 1 (dTup (dCons (dVar 2) (dCons (dVar 3) (dCons (dVar 4) dNil))))) dSkip)) dSkip)
def rd_law_all_b2 : DTS :=
  (dSeq (dFor (dRng2 (dCons (dOp addD (dNeg (dVar 2)) (dC (.int 1))) (dCons (dOp addD (dVar 2) (dC (.int 1))) dNil))) (gNm 3) rd_law_all_b1) (dAug 2 (fun i j => i + j) (dC (.int 1))))
def rd_law_all : DTS :=
  (dSeq (dOwn 1 dNil) (dSeq (dAsg (dC (.int 1)) (gNm 2)) (dSeq (dWhile (dT (dOp leD (dOp mulD (dOp mulD (dC (.int 3)) (dVar 2)) (dVar 2)) (dNeg (dVar 0)))) rd_law_all_b2) (dFrz 1 (dRet (dB sortedTD (dCons (dVar 1) dNil)))))))
def sp_law_all : Lay.Spec := fun ds R => match ds with
  | [.int d] => (d < 0 ∧ d.natAbs ≤ 2000) ∧ ∀ ms : List (List Int), ms.Perm ((allF d 1).map formI) → ms.Pairwise (fun x y => lexI y x = false) → R (.list (ms.map tupD))
  | _ => False
theorem ok_law_all : ∀ ds R, sp_law_all ds R → rd_law_all (fnE R) (startE 5 ds) := by
  intro ds R h
  unfold sp_law_all at h
  split at h
  · rename_i d
    obtain ⟨⟨d0, hd⟩, h⟩ := h
    have hsz : 16100000 ≤ sizeLine := by decide
    have hp62 : (10000 : Int) < 2 ^ 62 := by decide
    have hm62 : -(2 : Int) ^ 62 ≤ -10000 := by decide
    have hlen := allF_len d 2000 (by omega) 2000
    have hfull : (allF d 1).length ≤ 8000000 := by
      have := allF_len d 2000 (by omega) ((-d).toNat + 1 - 1) 1 rfl
      have h2 : ((-d).toNat + 1 - 1) * (2 * 2000) ≤ 2000 * (2 * 2000) := Nat.mul_le_mul_right _ (by omega)
      omega
    unfold rd_law_all
    walk_at "dd"
    refine while_by (fun (s : List Form × Nat × Sl × Sl) => [.val (.int d), .own (s.1.map formD), .val (.int s.2.1), s.2.2.1, s.2.2.2]) (fun s => s.1 ++ allF d s.2.1 = allF d 1 ∧ 0 < s.2.1 ∧ s.2.1 ≤ 2001) (fun s => (-d).toNat + 1 - s.2.1) ([], 1, .un, .un) rfl ⟨rfl, Nat.one_pos, (by decide : 1 ≤ 2001)⟩ ?_
    rintro ⟨fs, a, u3, u4⟩ ⟨hf, a0, a2⟩ bk
    simp only at hf a0 a2
    have turn : 3 * (a : Int) * a ≤ -d → rd_law_all_b2 { nx := fun en' => ∃ a' : List Form × Nat × Sl × Sl, en' = [.val (.int d), .own (a'.1.map formD), .val (.int a'.2.1), a'.2.2.1, a'.2.2.2] ∧ (a'.1 ++ allF d a'.2.1 = allF d 1 ∧ 0 < a'.2.1 ∧ a'.2.1 ≤ 2001) ∧ (-d).toNat + 1 - a'.2.1 < (-d).toNat + 1 - a, rt := R, bk := bk, ct := fun en' => ∃ a' : List Form × Nat × Sl × Sl, en' = [.val (.int d), .own (a'.1.map formD), .val (.int a'.2.1), a'.2.2.1, a'.2.2.2] ∧ (a'.1 ++ allF d a'.2.1 = allF d 1 ∧ 0 < a'.2.1 ∧ a'.2.1 ≤ 2001) ∧ (-d).toNat + 1 - a'.2.1 < (-d).toNat + 1 - a } [.val (.int d), .own (fs.map formD), .val (.int a), u3, u4] := fun h3 => by
      have ha := sq_lt h3
      rw [allF_more h3] at hf
      have hl2 := congrArg List.length hf
      rw [List.length_append, List.length_append] at hl2
      unfold rd_law_all_b2
      walk_at "dd"
      refine ⟨by omega, ?_⟩
      rw [show (a : Int) + 1 - (-(a : Int) + 1) = ((2 * a : Nat) : Int) by omega, Int.toNat_natCast]
      refine for_by (fun (s : List Form × Sl × Sl) => [.val (.int d), .own (s.1.map formD), .val (.int a), s.2.1, s.2.2]) (fun t s => s.1 = fs ++ rowF d a ((bsOf a).take t)) (fs, u3, u4) rfl (by show fs = fs ++ []; rw [List.append_nil]) ?_ ?_
      · rintro t e he ⟨gs, v3, v4⟩ hg bk2
        simp only at hg
        obtain ⟨ht, rfl⟩ := rangeD_get he
        have et := bsOf_take ht
        rw [show -(a : Int) + 1 + (t : Int) = -(a : Int) + 1 + (t : Int) from rfl]
        generalize hb : -(a : Int) + 1 + (t : Int) = b at *
        have hba : b.natAbs ≤ a := by omega
        obtain ⟨q1, q2, q3⟩ := form_bound hd h3 hba a0
        have hs : 10000000 ≤ 2 ^ 25 := by decide
        have mono : ∀ x : Form, okF d a b = true → (gs ++ [x]).length ≤ 8000001 := fun x hx => by
          have h1 : (rowF d a ((bsOf a).take t)).length ≤ (rowF d a (bsOf a)).length := by
            unfold rowF
            rw [List.length_map, List.length_map]
            exact (List.Sublist.filter _ (List.take_sublist t _)).length_le
          rw [List.length_append, hg, List.length_append]
          simp only [List.length_cons, List.length_nil]
          omega
        have done : ∀ (hk : okF d a b = false) (w4 : Sl), ∃ a' : List Form × Sl × Sl, [Sl.val (.int d), .own (gs.map formD), .val (.int a), .val (.int b), w4] = [Sl.val (.int d), .own (a'.1.map formD), .val (.int a), a'.2.1, a'.2.2] ∧ a'.1 = fs ++ rowF d a ((bsOf a).take (t + 1)) := fun hk w4 => by
          refine ⟨(gs, _, _), rfl, ?_⟩
          rw [et, rowF_snoc, hk, hg]
          simp
        unfold rd_law_all_b1
        walk_at "dd"
        rw [fmod_pos _ (show (0 : Int) < 4 * (a : Int) by omega)]
        have a1 : (4 * (a : Int)).natAbs < 2 ^ 25 := by omega
        refine ⟨mulOk (n := 25) (m := 25) (by omega) (by omega) (by decide), mulOk (x := 4) (n := 3) (m := 25) (by decide) (by omega) (by decide), by omega, fun z => ?_, fun z => done ?_ _⟩
        · refine ⟨mulOk (n := 25) (m := 25) (by omega) (by omega) (by decide), mulOk (x := 4) (n := 3) (m := 25) (by decide) (by omega) (by decide), divOk (n := 25) (by omega) (by omega) (by decide), then_intro ?_⟩
          rw [fdiv_pos _ (show (0 : Int) < 4 * (a : Int) by omega)]
          rw [show (b * b - d) / (4 * (a : Int)) = cOf d a b from rfl]
          have hdc := form_disc a0 z
          have hz : decide ((b * b - d) % (4 * (a : Int)) = 0) = true := decide_eq_true z
          generalize hcc : cOf d a b = c at *
          walk_at "dd"
          have hok : okF d a b = (decide (Red ((a : Int), b, c)) && decide (Nat.gcd (Int.gcd a b) c.natAbs = 1)) := by
            unfold okF
            rw [hz, hcc, Bool.true_and]
          have eg2 : Int.gcd ((Int.gcd (a : Int) b : Nat) : Int) c = Nat.gcd (Int.gcd a b) c.natAbs := rfl
          rw [eg2]
          have plus : Red ((a : Int), b, c) → ((Nat.gcd (Int.gcd a b) c.natAbs : Nat) : Int) = 1 → (gs.map formD).length < sizeLine ∧ ∃ a' : List Form × Sl × Sl, [Sl.val (.int d), Sl.own (gs.map formD ++ [.tuple [.int a, .int b, .int c]]), Sl.val (.int a), Sl.val (.int b), Sl.val (.int c)] = [Sl.val (.int d), .own (a'.1.map formD), .val (.int a), a'.2.1, a'.2.2] ∧ a'.1 = fs ++ rowF d a ((bsOf a).take (t + 1)) := fun r eg => by
            have hgc : Nat.gcd (Int.gcd a b) c.natAbs = 1 := by omega
            rw [decide_eq_true hgc, Bool.and_true, decide_eq_true r] at hok
            have hm := mono ((a : Int), b, c) hok
            rw [List.length_append, List.length_singleton] at hm
            refine ⟨by rw [List.length_map]; omega, (gs ++ [((a : Int), b, c)], _, _), by rw [List.map_append]; rfl, ?_⟩
            rw [et, rowF_snoc, hok, if_pos rfl, hg, List.append_assoc, hcc]
          have noG : ¬ ((Nat.gcd (Int.gcd a b) c.natAbs : Nat) : Int) = 1 → okF d a b = false := fun eg => by
            have hgn : ¬ Nat.gcd (Int.gcd a b) c.natAbs = 1 := fun w => eg (by omega)
            rw [hok, decide_eq_false hgn, Bool.and_false]
          have noR : ¬ Red ((a : Int), b, c) → okF d a b = false := fun r => by
            rw [hok, decide_eq_false r, Bool.false_and]
          refine ⟨fun h1 => ⟨fun h2 => ⟨fun h4 => plus ?_ h4, fun h4 => done (noG h4) _⟩, fun h2 => ⟨fun h4 => done (noR ?_) _, fun h4 => ⟨fun h5 => plus ?_ h5, fun h5 => done (noG h5) _⟩⟩⟩, fun h1 => done (noR ?_) _⟩ <;> unfold Red <;> simp only <;> omega
        · unfold okF
          rw [decide_eq_false z]
          rfl
      · rintro ⟨gs, v3, v4⟩ hg
        rw [rangeD_length] at hg
        simp only at hg
        walk_at "dd"
        rw [List.take_of_length_le (by rw [bsOf_len]; omega)] at hg
        refine ⟨(gs, a + 1, _, _), rfl, ⟨?_, by show 0 < a + 1; omega, by show a + 1 ≤ 2001; omega⟩, by show (-d).toNat + 1 - (a + 1) < _; omega⟩
        show gs ++ allF d (a + 1) = _
        rw [hg, List.append_assoc, hf]
    have stop : ¬ 3 * (a : Int) * a ≤ -d → fs = allF d 1 := fun h3 => by
      rw [allF_stop h3, List.append_nil] at hf
      exact hf
    walk_at "dd"
    refine ⟨mulOk (x := 3) (n := 3) (m := 25) (by decide) ?_ (by decide), mulOk (n := 28) (m := 25) ?_ ?_ (by decide), turn, fun z => ?_⟩
    · omega
    · exact bits_mul (x := 3) (n := 3) (m := 25) (by decide) (by omega)
    · omega
    · have := stop z
      subst this
      walk_at "dd"
      refine ⟨(allF d 1).map formI, 3, by rw [List.map_map]; rfl, by decide, fun n hn => by obtain ⟨f, _, rfl⟩ := List.mem_map.mp hn; rfl, fun ms h1 h2 => ?_⟩
      walk_at "dd"
      exact h ms h1 h2
  · exact h.elim
theorem spx_law_all {d : Int} {R : D → Prop} : sp_law_all [.int d] R = ((d < 0 ∧ d.natAbs ≤ 2000) ∧ ∀ ms : List (List Int), ms.Perm ((allF d 1).map formI) → ms.Pairwise (fun x y => lexI y x = false) → R (.list (ms.map tupD))) := rfl
local macro_rules | `(tactic| walk_at "d1") => `(tactic| try simp only [dSeq, dSkip, dPass, dRet, dRetN, dDrop, dCond, dAsg, gNm, gTp, dOwn, dOwnL, dPar, dAug, dApp, dExt, dFrz, dFor, dLc, dBreak, dCont, dVar, dC, dOp, dT, dIsi, dNeg, dNot, dTNot, dAnd, dOr, dTAnd, dTOr, dIf, dCh, dNil, dCons, dTup, dLst, dIxO, dB, dCall, dCallW, dItems, dRng1, dRng2, dYes, fnE, startE, startW, startS, dLenO, dLenS, dIxS, dSl, dPt, dNo, wipeE, addD_int, addD_str, addD_tup, addD_lst, subD_int, mulD_int, mulD_tup, mulD_lst, fdivD_int, modD_int, powD_int, shlD_int, shrD_int, andD_int, ltD_int, leD_int, gtD_int, geD_int, eqD_ap, neD_ap, isD_ap, isNotD_ap, isNon_none, isNon_int, isNon_bool, isNon_str, isNon_tup, isNon_lst, isInt_none, isInt_int, isInt_bool, isInt_str, isInt_tup, isInt_lst, isBool_none, isBool_int, isBool_bool, isBool_str, isBool_tup, isBool_lst, isStr_none, isStr_int, isStr_bool, isStr_str, isStr_tup, isStr_lst, isTup_none, isTup_int, isTup_bool, isTup_str, isTup_tup, isTup_lst, isLst_lst, Cnd_true, Cnd_false, Cnd_not, Cnd_dec, asB_bool, forall_const, true_implies, false_implies, implies_true, decide_true, decide_false, Classical.not_not, negD_int, notD_bool, onVal_val, onOwn_own, onDic_dic, onScr_scr, onWv_wv, onInt_int, onTup_tup, onLst_lst, onItems_lst, onItems_tup, frz1_own, frz1_val, frz1_un, ixD_lst, ixD_tup, ixL_int, optD_some, optI_some, absD_int, intD_int, intD_bool, lenD_lst, lenD_tup, lenD_str, tupleD_lst, tupleD_tup, listD_lst, listD_tup, min2D_int, max2D_int, sumD_ints, allD_bls, anyD_bls, slD_lst, slD_tup, slD_str, gNl_nil, gCs_cons, par2_two, seq1_lst, seq1_tup, rng1D_int, rng2D_int, gt_z, gt_s, sp_next_int, set_z, set_s, List.map_cons, List.map_nil, List.length_cons, List.length_nil, List.cons_append, List.nil_append, List.replicate, Nat.reduceAdd, Nat.reduceSub, Nat.zero_add, shaped_int, shaped_bool, shaped_none, shaped_listI, shaped_tupI, shaped_nilL, shaped_nilT, eqv_int, eqv_bool, eqv_str, eqv_none, eqv_list_nil, List.isEmpty_nil, List.isEmpty_cons, Bool.true_eq_false, Bool.false_eq_true, decide_eq_true_eq, and_self, true_and, and_true, not_dec, Bool.not_eq_true', decide_eq_false_iff_not, atI_0, atI_1, atI_2, ite_true, ite_false, if_true, if_false, reduceIte, Bool.not_true, Bool.not_false, not_true_eq_false, not_false_eq_true, List.set_cons_zero, List.set_cons_succ, dPar3, dRev, par3_three, sortedD_ints, revD_tup, two_nat, one_nat, three_nat, dCh3, dOwnC, dPutPar, putPar_two, dZip2, zip2D_lst, zip2D_tup, dPut, isBD_bl, isNotBD_bl, dNewO, dPutO, dSortedO, putKD_int, dPar3O, dParO2, par3O_two, parO2_one, minLD_lst, dKeysW, rdPairs_nil, rdPairs_cons, onPair_ii, revD_lst])
local macro_rules | `(tactic| walk_at "dd") => `(tactic| (walk_at "d1"; repeat (with_reducible (refine then_intro ?_); walk_at "d1")))
def rd_law_d : DTS :=
  (dRet (dCallW 0 sp_law_pick (dCons (dLst (dCons (dNeg (dC (.int 3))) (dCons (dNeg (dC (.int 4))) (dCons (dNeg (dC (.int 7))) (dCons (dNeg (dC (.int 8))) (dCons (dNeg (dC (.int 11))) (dCons (dNeg (dC (.int 12))) (dCons (dNeg (dC (.int 15))) (dCons (dNeg (dC (.int 16))) (dCons (dNeg (dC (.int 20))) (dCons (dNeg (dC (.int 23))) (dCons (dNeg (dC (.int 24))) (dCons (dNeg (dC (.int 27))) (dCons (dNeg (dC (.int 28))) (dCons (dNeg (dC (.int 32))) (dCons (dNeg (dC (.int 35))) (dCons (dNeg (dC (.int 36))) (dCons (dNeg (dC (.int 39))) (dCons (dNeg (dC (.int 40))) (dCons (dNeg (dC (.int 47))) (dCons (dNeg (dC (.int 48))) (dCons (dNeg (dC (.int 52))) (dCons (dNeg (dC (.int 55))) (dCons (dNeg (dC (.int 56))) (dCons (dNeg (dC (.int 60))) (dCons (dNeg (dC (.int 63))) (dCons (dNeg (dC (.int 64))) (dCons (dNeg (dC (.int 71))) (dCons (dNeg (dC (.int 75))) (dCons (dNeg (dC (.int 80))) (dCons (dNeg (dC (.int 84))) (dCons (dNeg (dC (.int 87))) (dCons (dNeg (dC (.int 95))) (dCons (dNeg (dC (.int 96))) (dCons (dNeg (dC (.int 99))) (dCons (dNeg (dC (.int 104))) (dCons (dNeg (dC (.int 111))) (dCons (dNeg (dC (.int 120))) (dCons (dNeg (dC (.int 128))) (dCons (dNeg (dC (.int 132))) (dCons (dNeg (dC (.int 159))) (dCons (dNeg (dC (.int 168))) (dCons (dNeg (dC (.int 192))) (dCons (dNeg (dC (.int 199))) (dCons (dNeg (dC (.int 231))) (dCons (dNeg (dC (.int 260))) dNil)))))))))))))))))))))))))))))))))))))))))))))) dNil)))
def dS : List Int := [-3, -4, -7, -8, -11, -12, -15, -16, -20, -23, -24, -27, -28, -32, -35, -36, -39, -40, -47, -48, -52, -55, -56, -60, -63, -64, -71, -75, -80, -84, -87, -95, -96, -99, -104, -111, -120, -128, -132, -159, -168, -192, -199, -231, -260]
def sp_law_d : Lay.Spec := fun ds R => match ds with
  | [] => ∀ d ∈ dS, R (.int d)
  | _ => False
theorem spx_law_d {R : D → Prop} : sp_law_d [] R = ∀ d ∈ dS, R (.int d) := rfl
theorem ok_law_d : ∀ ds R, sp_law_d ds R → rd_law_d (fnE R) (startW 1 ds) := by
  intro ds R h
  unfold sp_law_d at h
  split at h
  · unfold rd_law_d
    walk_at "dd"
    refine ⟨List.cons_ne_nil _ _, ?_⟩
    have hk : ∀ x ∈ dS.map PyData.int, R x := fun x hx => by
      obtain ⟨d, hd, rfl⟩ := List.mem_map.mp hx
      exact h d hd
    exact hk
  · exact h.elim
local macro_rules | `(tactic| walk_at "d1") => `(tactic| try simp only [dSeq, dSkip, dPass, dRet, dRetN, dDrop, dCond, dAsg, gNm, gTp, dOwn, dOwnL, dPar, dAug, dApp, dExt, dFrz, dFor, dLc, dBreak, dCont, dVar, dC, dOp, dT, dIsi, dNeg, dNot, dTNot, dAnd, dOr, dTAnd, dTOr, dIf, dCh, dNil, dCons, dTup, dLst, dIxO, dB, dCall, dCallW, dItems, dRng1, dRng2, dYes, fnE, startE, startW, startS, dLenO, dLenS, dIxS, dSl, dPt, dNo, wipeE, addD_int, addD_str, addD_tup, addD_lst, subD_int, mulD_int, mulD_tup, mulD_lst, fdivD_int, modD_int, powD_int, shlD_int, shrD_int, andD_int, ltD_int, leD_int, gtD_int, geD_int, eqD_ap, neD_ap, isD_ap, isNotD_ap, isNon_none, isNon_int, isNon_bool, isNon_str, isNon_tup, isNon_lst, isInt_none, isInt_int, isInt_bool, isInt_str, isInt_tup, isInt_lst, isBool_none, isBool_int, isBool_bool, isBool_str, isBool_tup, isBool_lst, isStr_none, isStr_int, isStr_bool, isStr_str, isStr_tup, isStr_lst, isTup_none, isTup_int, isTup_bool, isTup_str, isTup_tup, isTup_lst, isLst_lst, Cnd_true, Cnd_false, Cnd_not, Cnd_dec, asB_bool, forall_const, true_implies, false_implies, implies_true, decide_true, decide_false, Classical.not_not, negD_int, notD_bool, onVal_val, onOwn_own, onDic_dic, onScr_scr, onWv_wv, onInt_int, onTup_tup, onLst_lst, onItems_lst, onItems_tup, frz1_own, frz1_val, frz1_un, ixD_lst, ixD_tup, ixL_int, optD_some, optI_some, absD_int, intD_int, intD_bool, lenD_lst, lenD_tup, lenD_str, tupleD_lst, tupleD_tup, listD_lst, listD_tup, min2D_int, max2D_int, sumD_ints, allD_bls, anyD_bls, slD_lst, slD_tup, slD_str, gNl_nil, gCs_cons, par2_two, seq1_lst, seq1_tup, rng1D_int, rng2D_int, gt_z, gt_s, sp_next_int, set_z, set_s, List.map_cons, List.map_nil, List.length_cons, List.length_nil, List.cons_append, List.nil_append, List.replicate, Nat.reduceAdd, Nat.reduceSub, Nat.zero_add, shaped_int, shaped_bool, shaped_none, shaped_listI, shaped_tupI, shaped_nilL, shaped_nilT, eqv_int, eqv_bool, eqv_str, eqv_none, eqv_list_nil, List.isEmpty_nil, List.isEmpty_cons, Bool.true_eq_false, Bool.false_eq_true, decide_eq_true_eq, and_self, true_and, and_true, not_dec, Bool.not_eq_true', decide_eq_false_iff_not, atI_0, atI_1, atI_2, ite_true, ite_false, if_true, if_false, reduceIte, Bool.not_true, Bool.not_false, not_true_eq_false, not_false_eq_true, List.set_cons_zero, List.set_cons_succ, dPar3, dRev, par3_three, sortedD_ints, revD_tup, two_nat, one_nat, three_nat, dCh3, dOwnC, dPutPar, putPar_two, dZip2, zip2D_lst, zip2D_tup, dPut, isBD_bl, isNotBD_bl, dNewO, dPutO, dSortedO, putKD_int, dPar3O, dParO2, par3O_two, parO2_one, minLD_lst, dKeysW, rdPairs_nil, rdPairs_cons, onPair_ii, revD_lst])
local macro_rules | `(tactic| walk_at "dd") => `(tactic| (walk_at "d1"; repeat (with_reducible (refine then_intro ?_); walk_at "d1")))
/-- the form after a change -/
def act (f : Form) (p q r s : Int) : Form := (f.1 * p * p + f.2.1 * p * r + f.2.2 * r * r, 2 * f.1 * p * q + f.2.1 * (p * s + q * r) + 2 * f.2.2 * r * s, f.1 * q * q + f.2.1 * q * s + f.2.2 * s * s)
def Eqv (f g : Form) : Prop := ∃ p q r s : Int, p * s - q * r = 1 ∧ g = act f p q r s
theorem form_ext {f g : Form} (h1 : f.1 = g.1) (h2 : f.2.1 = g.2.1) (h3 : f.2.2 = g.2.2) : f = g := Prod.ext h1 (Prod.ext h2 h3)
theorem act_one (f : Form) : act f 1 0 0 1 = f := by
  refine form_ext ?_ ?_ ?_ <;> unfold act <;> simp only <;> omega
theorem act_act (f : Form) (p q r s p' q' r' s' : Int) : act (act f p q r s) p' q' r' s' = act f (p * p' + q * r') (p * q' + q * s') (r * p' + s * r') (r * q' + s * s') := by
  refine form_ext ?_ ?_ ?_ <;> unfold act <;> simp only <;> grind
theorem Eqv.refl (f : Form) : Eqv f f := ⟨1, 0, 0, 1, by decide, (act_one f).symm⟩
theorem Eqv.trans {f g h : Form} (h1 : Eqv f g) (h2 : Eqv g h) : Eqv f h := by
  obtain ⟨p, q, r, s, e, rfl⟩ := h1
  obtain ⟨p', q', r', s', e', rfl⟩ := h2
  refine ⟨_, _, _, _, ?_, act_act f p q r s p' q' r' s'⟩
  have : (p * p' + q * r') * (r * q' + s * s') - (p * q' + q * s') * (r * p' + s * r') = (p * s - q * r) * (p' * s' - q' * r') := by grind
  rw [this, e, e']; rfl
theorem act_inv {f : Form} {p q r s : Int} (h : p * s - q * r = 1) : act (act f p q r s) s (-q) (-r) p = f := by
  rw [act_act]
  have e1 : p * s + q * -r = 1 := by rw [Int.mul_neg]; omega
  have e2 : p * -q + q * p = 0 := by grind
  have e3 : r * s + s * -r = 0 := by grind
  have e4 : r * -q + s * p = 1 := by grind
  rw [e1, e2, e3, e4]
  exact act_one f
theorem Eqv.symm {f g : Form} (h : Eqv f g) : Eqv g f := by
  obtain ⟨p, q, r, s, e, rfl⟩ := h
  exact ⟨s, -q, -r, p, by grind, (act_inv e).symm⟩
theorem act_shift (f : Form) (t : Int) : shiftF t f = act f 1 t 0 1 := by
  refine form_ext ?_ ?_ ?_ <;> unfold act shiftF <;> simp only <;> grind
theorem act_swap (f : Form) : swapF f = act f 0 (-1) 1 0 := by
  refine form_ext ?_ ?_ ?_ <;> unfold act swapF <;> simp only <;> grind
theorem FEq.eqv {f g : Form} (h : FEq f g) : Eqv f g := by
  induction h with
  | refl => exact .refl _
  | shift t _ ih => exact ih.trans ⟨1, t, 0, 1, by omega, act_shift _ t⟩
  | swap _ ih => exact ih.trans ⟨0, -1, 1, 0, by omega, act_swap _⟩
theorem disc_act {f : Form} {p q r s : Int} (h : p * s - q * r = 1) : disc (act f p q r s) = disc f := by
  have : disc (act f p q r s) = disc f * ((p * s - q * r) * (p * s - q * r)) := by unfold disc act; simp only; grind
  rw [this, h]; omega
theorem Eqv.disc {f g : Form} (h : Eqv f g) : disc g = disc f := by
  obtain ⟨p, q, r, s, e, rfl⟩ := h
  exact disc_act e
/-- the number of a form -/
def valF (f : Form) (x y : Int) : Int := f.1 * x * x + f.2.1 * x * y + f.2.2 * y * y
theorem val_four (f : Form) (x y : Int) : 4 * f.1 * valF f x y = (2 * f.1 * x + f.2.1 * y) * (2 * f.1 * x + f.2.1 * y) - disc f * (y * y) := by unfold valF disc; grind
theorem sqI_nonneg (x : Int) : 0 ≤ x * x := by
  rcases Int.le_total 0 x with z | z
  · exact Int.mul_nonneg z z
  · exact Int.mul_nonneg_of_nonpos_of_nonpos z z
theorem sqI_pos {x : Int} (h : x ≠ 0) : 0 < x * x := by
  have := sqI_nonneg x
  have := Int.mul_ne_zero h h
  omega
theorem val_pos {f : Form} (h0 : 0 < f.1) (hd : disc f < 0) {x y : Int} (h : ¬ (x = 0 ∧ y = 0)) : 0 < valF f x y := by
  have e := val_four f x y
  have h1 := sqI_nonneg (2 * f.1 * x + f.2.1 * y)
  have h2 : 0 < 4 * f.1 * valF f x y := by
    rw [e]
    by_cases z : y = 0
    · subst z
      have hx : x ≠ 0 := fun z => h ⟨z, rfl⟩
      have := sqI_pos (x := 2 * f.1 * x) (Int.mul_ne_zero (by omega) hx)
      rw [Int.mul_zero, Int.add_zero, Int.mul_zero, Int.mul_zero]
      omega
    · have := Int.mul_neg_of_neg_of_pos hd (sqI_pos z)
      omega
  rcases (show 0 < valF f x y ∨ valF f x y ≤ 0 by omega) with z | z
  · exact z
  · have := Int.mul_nonneg (show 0 ≤ 4 * f.1 by omega) (show 0 ≤ -valF f x y by omega)
    rw [Int.mul_neg] at this
    omega
theorem act_pos {f : Form} (h0 : 0 < f.1) (hd : disc f < 0) {p q r s : Int} (h : p * s - q * r = 1) : 0 < (act f p q r s).1 :=
  val_pos (x := p) (y := r) h0 hd fun ⟨h1, h2⟩ => by rw [h1, h2] at h; omega
theorem Eqv.pos {f g : Form} (h : Eqv f g) (h0 : 0 < f.1) (hd : Lay.disc f < 0) : 0 < g.1 := by
  obtain ⟨p, q, r, s, e, rfl⟩ := h
  exact act_pos h0 hd e
theorem abs_sq_le {a b : Int} (h1 : -a ≤ b) (h2 : b ≤ a) : b * b ≤ a * a := by
  have h := Int.mul_nonneg (show 0 ≤ a - b by omega) (show 0 ≤ a + b by omega)
  have : (a - b) * (a + b) = a * a - b * b := by grind
  omega
/-- at a least form -/
theorem red_disc {f : Form} (h0 : 0 < f.1) (h : Red f) : disc f ≤ -3 * (f.1 * f.1) := by
  obtain ⟨h1, h2, h3, _⟩ := h
  have e1 := abs_sq_le (a := f.1) (b := f.2.1) (by omega) h2
  have e2 := Int.mul_le_mul_of_nonneg_left h3 (show 0 ≤ 4 * f.1 by omega)
  have e3 : 4 * f.1 * f.1 = 4 * (f.1 * f.1) := by grind
  unfold disc
  omega
theorem red_far {f : Form} (h0 : 0 < f.1) (h : Red f) {x y : Int} (hy : 2 ≤ y.natAbs) : 3 * f.1 ≤ valF f x y := by
  have e := val_four f x y
  have h1 := sqI_nonneg (2 * f.1 * x + f.2.1 * y)
  have h2 := red_disc h0 h
  have hyy : 4 ≤ y * y := by
    have := Nat.mul_le_mul hy hy
    have e : (y * y).natAbs = y.natAbs * y.natAbs := Int.natAbs_mul ..
    have := sqI_nonneg y
    omega
  have h3 := Int.mul_le_mul_of_nonneg_right (show 3 * (f.1 * f.1) ≤ -disc f by omega) (show 0 ≤ y * y by omega)
  have h4 := Int.mul_le_mul_of_nonneg_left hyy (show 0 ≤ 3 * (f.1 * f.1) by have := sqI_nonneg f.1; omega)
  have h5 : 4 * f.1 * (3 * f.1) ≤ 4 * f.1 * valF f x y := by
    rw [e]
    have : 4 * f.1 * (3 * f.1) = 3 * (f.1 * f.1) * 4 := by grind
    have : -disc f * (y * y) = -(disc f * (y * y)) := Int.neg_mul ..
    omega
  exact Int.le_of_mul_le_mul_left h5 (by omega)
theorem abs_mul_ge {A B x : Int} (h1 : -A ≤ B) (h2 : B ≤ A) : 0 ≤ A * x * x + B * x := by
  rcases Int.lt_trichotomy x 0 with z | z | z
  · have h3 := Int.mul_nonneg_of_nonpos_of_nonpos (show A * x + B ≤ 0 by
      have := Int.mul_le_mul_of_nonneg_left (show x ≤ -1 by omega) (show 0 ≤ A by omega)
      omega) (show x ≤ 0 by omega)
    have : (A * x + B) * x = A * x * x + B * x := by grind
    omega
  · subst z; simp
  · have h3 := Int.mul_nonneg (show 0 ≤ A * x + B by
      have := Int.mul_le_mul_of_nonneg_left (show 1 ≤ x by omega) (show 0 ≤ A by omega)
      omega) (show 0 ≤ x by omega)
    have : (A * x + B) * x = A * x * x + B * x := by grind
    omega
theorem red_near {f : Form} (h : Red f) {x y : Int} (hy : y = 1 ∨ y = -1) : valF f x y = f.1 * x * x + (f.2.1 * y) * x + f.2.2 ∧ 0 ≤ f.1 * x * x + (f.2.1 * y) * x := by
  obtain ⟨h1, h2, _, _⟩ := h
  refine ⟨?_, ?_⟩
  · unfold valF
    rcases hy with rfl | rfl <;> grind
  · refine abs_mul_ge ?_ ?_ <;> rcases hy with rfl | rfl <;> omega
theorem red_least {f : Form} (h0 : 0 < f.1) (h : Red f) {p q r s : Int} (e : p * s - q * r = 1) : f.1 ≤ valF f p r := by
  by_cases z : r = 0
  · subst z
    have hp : p ≠ 0 := fun z => by rw [z] at e; omega
    have := sqI_pos hp
    have h1 := Int.mul_le_mul_of_nonneg_left (show 1 ≤ p * p by omega) (show 0 ≤ f.1 by omega)
    have : valF f p 0 = f.1 * (p * p) := by unfold valF; grind
    omega
  · by_cases z1 : r = 1 ∨ r = -1
    · have := red_near h (x := p) z1
      have := h.2.2.1
      omega
    · have := red_far h0 h (x := p) (y := r) (by omega)
      omega
theorem unit_mul {p s : Int} (h : p * s = 1) : (p = 1 ∧ s = 1) ∨ (p = -1 ∧ s = -1) := by
  have h1 : p.natAbs * s.natAbs = 1 := by rw [← Int.natAbs_mul, h]; rfl
  have h2 := Nat.eq_one_of_mul_eq_one_right h1
  rcases (show p = 1 ∨ p = -1 by omega) with rfl | rfl
  · left; omega
  · right; omega
theorem small_zero {A B t : Int} (h0 : 0 < A) (h1 : -A < B) (h2 : B ≤ A) (h3 : -A < B + 2 * (A * t)) (h4 : B + 2 * (A * t) ≤ A) : t = 0 := by
  rcases Int.lt_trichotomy t 0 with z | z | z
  · have := Int.mul_le_mul_of_nonneg_left (show t ≤ -1 by omega) (show 0 ≤ A by omega)
    omega
  · exact z
  · have := Int.mul_le_mul_of_nonneg_left (show 1 ≤ t by omega) (show 0 ≤ A by omega)
    omega
/-- least forms that are alike are one -/
theorem red_unique {f g : Form} (h0 : 0 < f.1) (hd : disc f < 0) (h : Eqv f g) (hf : Red f) (hg : Red g) : f = g := by
  have g0 := h.pos h0 hd
  have ed := h.disc
  obtain ⟨p, q, r, s, e, hg'⟩ := h
  have eg1 : g.1 = valF f p r := by rw [hg']; rfl
  have le1 := red_least h0 hf e
  have le2 : g.1 ≤ f.1 := by
    have e2 : s * p - (-q) * (-r) = 1 := by grind
    have := red_least g0 hg e2
    have e3 : valF g s (-r) = f.1 := by
      have := congrArg (·.1) (act_inv (f := f) e)
      rw [← hg'] at this
      exact this
    omega
  have ea : g.1 = f.1 := by omega
  have eg2 : g.2.1 = 2 * f.1 * p * q + f.2.1 * (p * s + q * r) + 2 * f.2.2 * r * s := by rw [hg']; rfl
  have same : g.2.1 = f.2.1 → f = g := fun eb => by
    refine form_ext ea.symm eb.symm ?_
    unfold disc at ed
    rw [ea, eb] at ed
    have : 4 * f.1 * g.2.2 = 4 * f.1 * f.2.2 := by omega
    exact (Int.eq_of_mul_eq_mul_left (by omega) this).symm
  obtain ⟨f1, f2, f3, f4⟩ := hf
  obtain ⟨g1, g2, g3, g4⟩ := hg
  by_cases z : r = 0
  · subst z
    rw [Int.mul_zero, Int.sub_zero] at e
    have eb : g.2.1 = f.2.1 + 2 * (f.1 * (p * q)) := by
      rw [eg2, e]
      grind
    have := small_zero (t := p * q) h0 f1 f2 (by omega) (by omega)
    rw [this] at eb
    exact same (by omega)
  · by_cases z1 : r = 1 ∨ r = -1
    · obtain ⟨k1, k2⟩ := red_near (x := p) ⟨f1, f2, f3, f4⟩ z1
      have ec : f.2.2 = f.1 := by omega
      have kz : f.1 * p * p + f.2.1 * r * p = 0 := by omega
      have b0 : 0 ≤ f.2.1 := by
        rcases (show f.2.1 < 0 ∨ 0 ≤ f.2.1 by omega) with z | z
        · exact absurd ⟨ec.symm, z⟩ f4
        · exact z
      unfold disc at ed
      rw [ea, ec] at ed
      have h3 := Int.mul_le_mul_of_nonneg_left g3 (show 0 ≤ 4 * f.1 by omega)
      rw [ea] at h3
      by_cases zb : f.2.1 = f.1
      · rw [zb] at ed
        have e4 : 4 * f.1 * f.1 = 4 * (f.1 * f.1) := by grind
        have e5 : f.1 * f.1 ≤ g.2.1 * g.2.1 := by omega
        have hb : g.2.1 = f.1 := by
          rcases (show g.2.1 = f.1 ∨ (-f.1 + 1 ≤ g.2.1 ∧ g.2.1 ≤ f.1 - 1) by omega) with z | ⟨z1, z2⟩
          · exact z
          · have := abs_sq_le (a := f.1 - 1) (b := g.2.1) (by omega) (by omega)
            have : (f.1 - 1) * (f.1 - 1) = f.1 * f.1 - 2 * f.1 + 1 := by grind
            omega
        exact same (by omega)
      · have p0 : p = 0 := by
          have e4 : (f.1 * p + f.2.1 * r) * p = 0 := by rw [← kz]; grind
          rcases Int.mul_eq_zero.mp e4 with z | z
          · rcases Int.lt_trichotomy p 0 with w | w | w
            · have := Int.mul_le_mul_of_nonneg_left (show p ≤ -1 by omega) (show 0 ≤ f.1 by omega)
              rcases z1 with rfl | rfl <;> omega
            · exact w
            · have := Int.mul_le_mul_of_nonneg_left (show 1 ≤ p by omega) (show 0 ≤ f.1 by omega)
              rcases z1 with rfl | rfl <;> omega
          · exact z
        subst p0
        have eqr : q * r = -1 := by omega
        have eb : g.2.1 = -f.2.1 + 2 * (f.1 * (r * s)) := by
          rw [eg2, ec, Int.zero_mul, Int.zero_add, eqr]
          grind
        have t0 := small_zero (t := r * s) (B := -f.2.1) h0 (by omega) (by omega) (by omega) (by omega)
        rw [t0] at eb
        have eb' : g.2.1 = -f.2.1 := by omega
        rw [eb', Int.neg_mul_neg] at ed
        have ec' : g.2.2 = f.1 := Int.eq_of_mul_eq_mul_left (show 4 * f.1 ≠ 0 by omega) (by omega)
        have : ¬ g.2.1 < 0 := fun z => g4 ⟨by omega, z⟩
        exact same (by omega)
    · have := red_far (x := p) (y := r) h0 ⟨f1, f2, f3, f4⟩ (by omega)
      omega
local macro_rules | `(tactic| walk_at "d1") => `(tactic| try simp only [dSeq, dSkip, dPass, dRet, dRetN, dDrop, dCond, dAsg, gNm, gTp, dOwn, dOwnL, dPar, dAug, dApp, dExt, dFrz, dFor, dLc, dBreak, dCont, dVar, dC, dOp, dT, dIsi, dNeg, dNot, dTNot, dAnd, dOr, dTAnd, dTOr, dIf, dCh, dNil, dCons, dTup, dLst, dIxO, dB, dCall, dCallW, dItems, dRng1, dRng2, dYes, fnE, startE, startW, startS, dLenO, dLenS, dIxS, dSl, dPt, dNo, wipeE, addD_int, addD_str, addD_tup, addD_lst, subD_int, mulD_int, mulD_tup, mulD_lst, fdivD_int, modD_int, powD_int, shlD_int, shrD_int, andD_int, ltD_int, leD_int, gtD_int, geD_int, eqD_ap, neD_ap, isD_ap, isNotD_ap, isNon_none, isNon_int, isNon_bool, isNon_str, isNon_tup, isNon_lst, isInt_none, isInt_int, isInt_bool, isInt_str, isInt_tup, isInt_lst, isBool_none, isBool_int, isBool_bool, isBool_str, isBool_tup, isBool_lst, isStr_none, isStr_int, isStr_bool, isStr_str, isStr_tup, isStr_lst, isTup_none, isTup_int, isTup_bool, isTup_str, isTup_tup, isTup_lst, isLst_lst, Cnd_true, Cnd_false, Cnd_not, Cnd_dec, asB_bool, forall_const, true_implies, false_implies, implies_true, decide_true, decide_false, Classical.not_not, negD_int, notD_bool, onVal_val, onOwn_own, onDic_dic, onScr_scr, onWv_wv, onInt_int, onTup_tup, onLst_lst, onItems_lst, onItems_tup, frz1_own, frz1_val, frz1_un, ixD_lst, ixD_tup, ixL_int, optD_some, optI_some, absD_int, intD_int, intD_bool, lenD_lst, lenD_tup, lenD_str, tupleD_lst, tupleD_tup, listD_lst, listD_tup, min2D_int, max2D_int, sumD_ints, allD_bls, anyD_bls, slD_lst, slD_tup, slD_str, gNl_nil, gCs_cons, par2_two, seq1_lst, seq1_tup, rng1D_int, rng2D_int, gt_z, gt_s, sp_next_int, set_z, set_s, List.map_cons, List.map_nil, List.length_cons, List.length_nil, List.cons_append, List.nil_append, List.replicate, Nat.reduceAdd, Nat.reduceSub, Nat.zero_add, shaped_int, shaped_bool, shaped_none, shaped_listI, shaped_tupI, shaped_nilL, shaped_nilT, eqv_int, eqv_bool, eqv_str, eqv_none, eqv_list_nil, List.isEmpty_nil, List.isEmpty_cons, Bool.true_eq_false, Bool.false_eq_true, decide_eq_true_eq, and_self, true_and, and_true, not_dec, Bool.not_eq_true', decide_eq_false_iff_not, atI_0, atI_1, atI_2, ite_true, ite_false, if_true, if_false, reduceIte, Bool.not_true, Bool.not_false, not_true_eq_false, not_false_eq_true, List.set_cons_zero, List.set_cons_succ, dPar3, dRev, par3_three, sortedD_ints, revD_tup, two_nat, one_nat, three_nat, dCh3, dOwnC, dPutPar, putPar_two, dZip2, zip2D_lst, zip2D_tup, dPut, isBD_bl, isNotBD_bl, dNewO, dPutO, dSortedO, putKD_int, dPar3O, dParO2, par3O_two, parO2_one, minLD_lst, dKeysW, rdPairs_nil, rdPairs_cons, onPair_ii, revD_lst])
local macro_rules | `(tactic| walk_at "dd") => `(tactic| (walk_at "d1"; repeat (with_reducible (refine then_intro ?_); walk_at "d1")))
def rd_size_of_two : DTS :=
  (dSeq (dAsg (dVar 0) (gTp 3 (gCs (gNm 1) (gCs (gNm 2) (gCs (gNm 3) gNl))))) (dRet (dOp subD (dOp mulD (dVar 2) (dVar 2)) (dOp mulD (dOp mulD (dC (.int 4)) (dVar 1)) (dVar 3)))))
def SmF (k : Nat) (f : Form) : Prop := f.1.natAbs < 2 ^ k ∧ f.2.1.natAbs < 2 ^ k ∧ f.2.2.natAbs < 2 ^ k
def sp_size_of_two : Lay.Spec := fun ds R => match ds with
  | [.tuple [.int a, .int b, .int c]] => (∃ k : Nat, k ≤ 1000 ∧ SmF k (a, b, c)) ∧ R (.int (disc (a, b, c)))
  | _ => False
theorem spx_size_of_two {a b c : Int} {R : D → Prop} : sp_size_of_two [.tuple [.int a, .int b, .int c]] R = ((∃ k : Nat, k ≤ 1000 ∧ SmF k (a, b, c)) ∧ R (.int (disc (a, b, c)))) := rfl
theorem ok_size_of_two : ∀ ds R, sp_size_of_two ds R → rd_size_of_two (fnE R) (startE 4 ds) := by
  intro ds R h
  unfold sp_size_of_two at h
  split at h
  · rename_i a b c
    obtain ⟨⟨k, hk, ab, bb, cb⟩, h⟩ := h
    unfold rd_size_of_two
    walk_at "dd"
    have b4 := bits_mul (x := 4) (n := 3) (by decide) ab
    exact ⟨mulOk bb bb (by omega), mulOk (x := 4) (n := 3) (by decide) ab (by omega), mulOk b4 cb (by omega), h⟩
  · exact h.elim
local macro_rules | `(tactic| walk_at "d1") => `(tactic| try simp only [dSeq, dSkip, dPass, dRet, dRetN, dDrop, dCond, dAsg, gNm, gTp, dOwn, dOwnL, dPar, dAug, dApp, dExt, dFrz, dFor, dLc, dBreak, dCont, dVar, dC, dOp, dT, dIsi, dNeg, dNot, dTNot, dAnd, dOr, dTAnd, dTOr, dIf, dCh, dNil, dCons, dTup, dLst, dIxO, dB, dCall, dCallW, dItems, dRng1, dRng2, dYes, fnE, startE, startW, startS, dLenO, dLenS, dIxS, dSl, dPt, dNo, wipeE, addD_int, addD_str, addD_tup, addD_lst, subD_int, mulD_int, mulD_tup, mulD_lst, fdivD_int, modD_int, powD_int, shlD_int, shrD_int, andD_int, ltD_int, leD_int, gtD_int, geD_int, eqD_ap, neD_ap, isD_ap, isNotD_ap, isNon_none, isNon_int, isNon_bool, isNon_str, isNon_tup, isNon_lst, isInt_none, isInt_int, isInt_bool, isInt_str, isInt_tup, isInt_lst, isBool_none, isBool_int, isBool_bool, isBool_str, isBool_tup, isBool_lst, isStr_none, isStr_int, isStr_bool, isStr_str, isStr_tup, isStr_lst, isTup_none, isTup_int, isTup_bool, isTup_str, isTup_tup, isTup_lst, isLst_lst, Cnd_true, Cnd_false, Cnd_not, Cnd_dec, asB_bool, forall_const, true_implies, false_implies, implies_true, decide_true, decide_false, Classical.not_not, negD_int, notD_bool, onVal_val, onOwn_own, onDic_dic, onScr_scr, onWv_wv, onInt_int, onTup_tup, onLst_lst, onItems_lst, onItems_tup, frz1_own, frz1_val, frz1_un, ixD_lst, ixD_tup, ixL_int, optD_some, optI_some, absD_int, intD_int, intD_bool, lenD_lst, lenD_tup, lenD_str, tupleD_lst, tupleD_tup, listD_lst, listD_tup, min2D_int, max2D_int, sumD_ints, allD_bls, anyD_bls, slD_lst, slD_tup, slD_str, gNl_nil, gCs_cons, par2_two, seq1_lst, seq1_tup, rng1D_int, rng2D_int, gt_z, gt_s, sp_next_int, set_z, set_s, List.map_cons, List.map_nil, List.length_cons, List.length_nil, List.cons_append, List.nil_append, List.replicate, Nat.reduceAdd, Nat.reduceSub, Nat.zero_add, shaped_int, shaped_bool, shaped_none, shaped_listI, shaped_tupI, shaped_nilL, shaped_nilT, eqv_int, eqv_bool, eqv_str, eqv_none, eqv_list_nil, List.isEmpty_nil, List.isEmpty_cons, Bool.true_eq_false, Bool.false_eq_true, decide_eq_true_eq, and_self, true_and, and_true, not_dec, Bool.not_eq_true', decide_eq_false_iff_not, atI_0, atI_1, atI_2, ite_true, ite_false, if_true, if_false, reduceIte, Bool.not_true, Bool.not_false, not_true_eq_false, not_false_eq_true, List.set_cons_zero, List.set_cons_succ, dPar3, dRev, par3_three, sortedD_ints, revD_tup, two_nat, one_nat, three_nat, dCh3, dOwnC, dPutPar, putPar_two, dZip2, zip2D_lst, zip2D_tup, dPut, isBD_bl, isNotBD_bl, dNewO, dPutO, dSortedO, putKD_int, dPar3O, dParO2, par3O_two, parO2_one, minLD_lst, dKeysW, rdPairs_nil, rdPairs_cons, onPair_ii, revD_lst, spx_size_of_two])
local macro_rules | `(tactic| walk_at "dd") => `(tactic| (walk_at "d1"; repeat (with_reducible (refine then_intro ?_); walk_at "d1")))
def rd_law_changed : DTS :=
  (dSeq (dAsg (dVar 0) (gTp 3 (gCs (gNm 2) (gCs (gNm 3) (gCs (gNm 4) gNl))))) (dSeq (dAsg (dVar 1) (gTp 4 (gCs (gNm 5) (gCs (gNm 6) (gCs (gNm 7) (gCs (gNm 8) gNl)))))) (dRet (dTup (dCons (dOp addD (dOp addD (dOp mulD (dOp mulD (dVar 2) (dVar 5)) (dVar 5)) (dOp mulD (dOp mulD (dVar 3) (dVar 5)) (dVar 7))) (dOp mulD (dOp mulD (dVar 4) (dVar 7)) (dVar 7))) (dCons (dOp addD (dOp addD (dOp mulD (dOp mulD (dOp mulD (dC (.int 2)) (dVar 2)) (dVar 5)) (dVar 6)) (dOp mulD (dVar 3) (dOp addD (dOp mulD (dVar 5) (dVar 8)) (dOp mulD (dVar 6) (dVar 7))))) (dOp mulD (dOp mulD (dOp mulD (dC (.int 2)) (dVar 4)) (dVar 7)) (dVar 8))) (dCons (dOp addD (dOp addD (dOp mulD (dOp mulD (dVar 2) (dVar 6)) (dVar 6)) (dOp mulD (dOp mulD (dVar 3) (dVar 6)) (dVar 8))) (dOp mulD (dOp mulD (dVar 4) (dVar 8)) (dVar 8))) dNil)))))))
def sp_law_changed : Lay.Spec := fun ds R => match ds with
  | [.tuple [.int a, .int b, .int c], .tuple [.int p, .int q, .int r, .int s]] => (∃ k : Nat, k ≤ 1000 ∧ SmF k (a, b, c) ∧ p.natAbs < 2 ^ k ∧ q.natAbs < 2 ^ k ∧ r.natAbs < 2 ^ k ∧ s.natAbs < 2 ^ k) ∧ R (formD (act (a, b, c) p q r s))
  | _ => False
theorem spx_law_changed {a b c p q r s : Int} {R : D → Prop} : sp_law_changed [.tuple [.int a, .int b, .int c], .tuple [.int p, .int q, .int r, .int s]] R = ((∃ k : Nat, k ≤ 1000 ∧ SmF k (a, b, c) ∧ p.natAbs < 2 ^ k ∧ q.natAbs < 2 ^ k ∧ r.natAbs < 2 ^ k ∧ s.natAbs < 2 ^ k) ∧ R (formD (act (a, b, c) p q r s))) := rfl
theorem ok_law_changed : ∀ ds R, sp_law_changed ds R → rd_law_changed (fnE R) (startE 9 ds) := by
  intro ds R h
  unfold sp_law_changed at h
  split at h
  · rename_i a b c p q r s
    obtain ⟨⟨k, hk, ⟨ab, bb, cb⟩, pb, qb, rb, sb⟩, h⟩ := h
    have m2 : ∀ {x y : Int}, x.natAbs < 2 ^ k → y.natAbs < 2 ^ k → CMulW x y := fun hx hy => mulOk hx hy (by omega)
    have m3 : ∀ {x y z : Int}, x.natAbs < 2 ^ k → y.natAbs < 2 ^ k → z.natAbs < 2 ^ k → CMulW (x * y) z := fun hx hy hz => mulOk (bits_mul hx hy) hz (by omega)
    have t2 : ∀ {x : Int}, x.natAbs < 2 ^ k → CMulW 2 x := fun hx => mulOk (x := 2) (n := 2) (by decide) hx (by omega)
    have t3 : ∀ {x y : Int}, x.natAbs < 2 ^ k → y.natAbs < 2 ^ k → CMulW (2 * x) y := fun hx hy => mulOk (bits_mul (x := 2) (n := 2) (by decide) hx) hy (by omega)
    have t4 : ∀ {x y z : Int}, x.natAbs < 2 ^ k → y.natAbs < 2 ^ k → z.natAbs < 2 ^ k → CMulW (2 * x * y) z := fun hx hy hz => mulOk (bits_mul (bits_mul (x := 2) (n := 2) (by decide) hx) hy) hz (by omega)
    have s2 : CMulW b (p * s + q * r) := by
      have h1 := bits_add (bits_mul pb sb) (bits_mul qb rb)
      exact mulOk bb h1 (by omega)
    unfold rd_law_changed
    walk_at "dd"
    exact ⟨m2 ab pb, m3 ab pb pb, m2 bb pb, m3 bb pb rb, m2 cb rb, m3 cb rb rb, t2 ab, t3 ab pb, t4 ab pb qb, m2 pb sb, m2 qb rb, s2, t2 cb, t3 cb rb, t4 cb rb sb, m2 ab qb, m3 ab qb qb, m2 bb qb, m3 bb qb sb, m2 cb sb, m3 cb sb sb, h⟩
  · exact h.elim
local macro_rules | `(tactic| walk_at "d1") => `(tactic| try simp only [dSeq, dSkip, dPass, dRet, dRetN, dDrop, dCond, dAsg, gNm, gTp, dOwn, dOwnL, dPar, dAug, dApp, dExt, dFrz, dFor, dLc, dBreak, dCont, dVar, dC, dOp, dT, dIsi, dNeg, dNot, dTNot, dAnd, dOr, dTAnd, dTOr, dIf, dCh, dNil, dCons, dTup, dLst, dIxO, dB, dCall, dCallW, dItems, dRng1, dRng2, dYes, fnE, startE, startW, startS, dLenO, dLenS, dIxS, dSl, dPt, dNo, wipeE, addD_int, addD_str, addD_tup, addD_lst, subD_int, mulD_int, mulD_tup, mulD_lst, fdivD_int, modD_int, powD_int, shlD_int, shrD_int, andD_int, ltD_int, leD_int, gtD_int, geD_int, eqD_ap, neD_ap, isD_ap, isNotD_ap, isNon_none, isNon_int, isNon_bool, isNon_str, isNon_tup, isNon_lst, isInt_none, isInt_int, isInt_bool, isInt_str, isInt_tup, isInt_lst, isBool_none, isBool_int, isBool_bool, isBool_str, isBool_tup, isBool_lst, isStr_none, isStr_int, isStr_bool, isStr_str, isStr_tup, isStr_lst, isTup_none, isTup_int, isTup_bool, isTup_str, isTup_tup, isTup_lst, isLst_lst, Cnd_true, Cnd_false, Cnd_not, Cnd_dec, asB_bool, forall_const, true_implies, false_implies, implies_true, decide_true, decide_false, Classical.not_not, negD_int, notD_bool, onVal_val, onOwn_own, onDic_dic, onScr_scr, onWv_wv, onInt_int, onTup_tup, onLst_lst, onItems_lst, onItems_tup, frz1_own, frz1_val, frz1_un, ixD_lst, ixD_tup, ixL_int, optD_some, optI_some, absD_int, intD_int, intD_bool, lenD_lst, lenD_tup, lenD_str, tupleD_lst, tupleD_tup, listD_lst, listD_tup, min2D_int, max2D_int, sumD_ints, allD_bls, anyD_bls, slD_lst, slD_tup, slD_str, gNl_nil, gCs_cons, par2_two, seq1_lst, seq1_tup, rng1D_int, rng2D_int, gt_z, gt_s, sp_next_int, set_z, set_s, List.map_cons, List.map_nil, List.length_cons, List.length_nil, List.cons_append, List.nil_append, List.replicate, Nat.reduceAdd, Nat.reduceSub, Nat.zero_add, shaped_int, shaped_bool, shaped_none, shaped_listI, shaped_tupI, shaped_nilL, shaped_nilT, eqv_int, eqv_bool, eqv_str, eqv_none, eqv_list_nil, List.isEmpty_nil, List.isEmpty_cons, Bool.true_eq_false, Bool.false_eq_true, decide_eq_true_eq, and_self, true_and, and_true, not_dec, Bool.not_eq_true', decide_eq_false_iff_not, atI_0, atI_1, atI_2, ite_true, ite_false, if_true, if_false, reduceIte, Bool.not_true, Bool.not_false, not_true_eq_false, not_false_eq_true, List.set_cons_zero, List.set_cons_succ, dPar3, dRev, par3_three, sortedD_ints, revD_tup, two_nat, one_nat, three_nat, dCh3, dOwnC, dPutPar, putPar_two, dZip2, zip2D_lst, zip2D_tup, dPut, isBD_bl, isNotBD_bl, dNewO, dPutO, dSortedO, putKD_int, dPar3O, dParO2, par3O_two, parO2_one, minLD_lst, dKeysW, rdPairs_nil, rdPairs_cons, onPair_ii, revD_lst, spx_size_of_two, spx_law_changed])
local macro_rules | `(tactic| walk_at "dd") => `(tactic| (walk_at "d1"; repeat (with_reducible (refine then_intro ?_); walk_at "d1")))
def rd_law_drawn_v2_b1 : DTS :=
  (dAsg (dCall sp_law_changed (dCons (dVar 1) (dCons (dCallW 0 sp_law_pick (dCons (dLst (dCons (dTup (dCons (dC (.int 1)) (dCons (dC (.int 1)) (dCons (dC (.int 0)) (dCons (dC (.int 1)) dNil))))) (dCons (dTup (dCons (dC (.int 1)) (dCons (dNeg (dC (.int 2))) (dCons (dC (.int 0)) (dCons (dC (.int 1)) dNil))))) (dCons (dTup (dCons (dC (.int 0)) (dCons (dNeg (dC (.int 1))) (dCons (dC (.int 1)) (dCons (dC (.int 0)) dNil))))) (dCons (dTup (dCons (dC (.int 1)) (dCons (dC (.int 0)) (dCons (dC (.int 3)) (dCons (dC (.int 1)) dNil))))) (dCons (dTup (dCons (dC (.int 2)) (dCons (dC (.int 1)) (dCons (dC (.int 1)) (dCons (dC (.int 1)) dNil))))) dNil)))))) dNil)) dNil))) (gNm 1))
def rd_law_drawn_v2 : DTS :=
  (dSeq (dFor (dRng1 (dCons (dCallW 0 sp_next (dCons (dC (.int 4)) dNil)) dNil)) (gNm 2) rd_law_drawn_v2_b1) (dRet (dVar 1)))
def Bd3 (n : Nat) (f : Form) : Prop := f.1.natAbs ≤ n ∧ f.2.1.natAbs ≤ n ∧ f.2.2.natAbs ≤ n
def sp_law_drawn_v2 : Lay.Spec := fun ds R => match ds with
  | [.tuple [.int a, .int b, .int c]] => Bd3 1000 (a, b, c) ∧ ∀ g : Form, Eqv (a, b, c) g → Bd3 8000000 g → R (formD g)
  | _ => False
theorem spx_law_drawn_v2 {a b c : Int} {R : D → Prop} : sp_law_drawn_v2 [.tuple [.int a, .int b, .int c]] R = (Bd3 1000 (a, b, c) ∧ ∀ g : Form, Eqv (a, b, c) g → Bd3 8000000 g → R (formD g)) := rfl
def turnsD : List (Int × Int × Int × Int) := [(1, 1, 0, 1), (1, -2, 0, 1), (0, -1, 1, 0), (1, 0, 3, 1), (2, 1, 1, 1)]
theorem turns_ok : ∀ t ∈ turnsD, t.1 * t.2.2.2 - t.2.1 * t.2.2.1 = 1 ∧ t.1.natAbs ≤ 3 ∧ t.2.1.natAbs ≤ 3 ∧ t.2.2.1.natAbs ≤ 3 ∧ t.2.2.2.natAbs ≤ 3 := by decide
theorem turns_bd {f : Form} {n : Nat} (h : Bd3 n f) : ∀ t ∈ turnsD, Bd3 (20 * n) (act f t.1 t.2.1 t.2.2.1 t.2.2.2) := by
  obtain ⟨h1, h2, h3⟩ := h
  unfold turnsD Bd3 act
  intro t ht
  simp only [List.mem_cons, List.not_mem_nil, or_false] at ht
  rcases ht with rfl | rfl | rfl | rfl | rfl <;> simp only <;> omega
theorem ok_law_drawn_v2 : ∀ ds R, sp_law_drawn_v2 ds R → rd_law_drawn_v2 (fnE R) (startW 3 ds) := by
  intro ds R h
  unfold sp_law_drawn_v2 at h
  split at h
  · rename_i a b c
    obtain ⟨hb, h⟩ := h
    unfold rd_law_drawn_v2
    walk_at "dd"
    refine ⟨by decide, fun r r0 r1 _ => ⟨by omega, ?_⟩⟩
    refine for_by (fun (s : Form × Sl) => [.wv, .val (formD s.1), s.2]) (fun i s => Eqv (a, b, c) s.1 ∧ Bd3 (20 ^ i * 1000) s.1) ((a, b, c), .un) rfl ⟨.refl _, by rw [Nat.pow_zero, Nat.one_mul]; exact hb⟩ ?_ ?_
    · rintro i d hd ⟨f, u⟩ ⟨he, hf⟩ bk
      simp only at he hf
      have hi : i < 3 := by
        have := (rangeD_get hd).1
        omega
      have hp : 20 ^ i ≤ 20 ^ 2 := Nat.pow_le_pow_right (by decide) (by omega)
      unfold rd_law_drawn_v2_b1
      have ef : formD f = .tuple [.int f.1, .int f.2.1, .int f.2.2] := rfl
      rw [ef]
      walk_at "dd"
      refine ⟨List.cons_ne_nil _ _, ?_⟩
      have key : ∀ t ∈ turnsD, sp_law_changed [.tuple [.int f.1, .int f.2.1, .int f.2.2], .tuple [.int t.1, .int t.2.1, .int t.2.2.1, .int t.2.2.2]] fun y => ∃ a' : Form × Sl, [Sl.wv, .val y, .val d] = [.wv, .val (formD a'.1), a'.2] ∧ Eqv (a, b, c) a'.1 ∧ Bd3 (20 ^ (i + 1) * 1000) a'.1 := fun t ht => by
        obtain ⟨e, t1, t2, t3, t4⟩ := turns_ok t ht
        obtain ⟨b1, b2, b3⟩ := hf
        have h2 : 400000 < 2 ^ 30 := by decide
        refine ⟨⟨30, by decide, ⟨by show f.1.natAbs < _; omega, by show f.2.1.natAbs < _; omega, by show f.2.2.natAbs < _; omega⟩, by omega, by omega, by omega, by omega⟩, (_, _), rfl, he.trans ⟨_, _, _, _, e, rfl⟩, ?_⟩
        have := turns_bd ⟨b1, b2, b3⟩ t ht
        rw [← Nat.mul_assoc, Nat.mul_comm 20, ← Nat.pow_succ] at this
        exact this
      have hk : ∀ x ∈ turnsD.map fun t => PyData.tuple [.int t.1, .int t.2.1, .int t.2.2.1, .int t.2.2.2], sp_law_changed [.tuple [.int f.1, .int f.2.1, .int f.2.2], x] fun y => ∃ a' : Form × Sl, [Sl.wv, .val y, .val d] = [.wv, .val (formD a'.1), a'.2] ∧ Eqv (a, b, c) a'.1 ∧ Bd3 (20 ^ (i + 1) * 1000) a'.1 := fun x hx => by
        obtain ⟨t, ht, rfl⟩ := List.mem_map.mp hx
        exact key t ht
      exact hk
    · rintro ⟨f, u⟩ ⟨he, hf⟩
      simp only [rangeD_length] at hf
      walk_at "dd"
      have hp : 20 ^ r.toNat ≤ 20 ^ 3 := Nat.pow_le_pow_right (by decide) (by omega)
      obtain ⟨b1, b2, b3⟩ := hf
      exact h f he ⟨by omega, by omega, by omega⟩
  · exact h.elim
local macro_rules | `(tactic| walk_at "d1") => `(tactic| try simp only [dSeq, dSkip, dPass, dRet, dRetN, dDrop, dCond, dAsg, gNm, gTp, dOwn, dOwnL, dPar, dAug, dApp, dExt, dFrz, dFor, dLc, dBreak, dCont, dVar, dC, dOp, dT, dIsi, dNeg, dNot, dTNot, dAnd, dOr, dTAnd, dTOr, dIf, dCh, dNil, dCons, dTup, dLst, dIxO, dB, dCall, dCallW, dItems, dRng1, dRng2, dYes, fnE, startE, startW, startS, dLenO, dLenS, dIxS, dSl, dPt, dNo, wipeE, addD_int, addD_str, addD_tup, addD_lst, subD_int, mulD_int, mulD_tup, mulD_lst, fdivD_int, modD_int, powD_int, shlD_int, shrD_int, andD_int, ltD_int, leD_int, gtD_int, geD_int, eqD_ap, neD_ap, isD_ap, isNotD_ap, isNon_none, isNon_int, isNon_bool, isNon_str, isNon_tup, isNon_lst, isInt_none, isInt_int, isInt_bool, isInt_str, isInt_tup, isInt_lst, isBool_none, isBool_int, isBool_bool, isBool_str, isBool_tup, isBool_lst, isStr_none, isStr_int, isStr_bool, isStr_str, isStr_tup, isStr_lst, isTup_none, isTup_int, isTup_bool, isTup_str, isTup_tup, isTup_lst, isLst_lst, Cnd_true, Cnd_false, Cnd_not, Cnd_dec, asB_bool, forall_const, true_implies, false_implies, implies_true, decide_true, decide_false, Classical.not_not, negD_int, notD_bool, onVal_val, onOwn_own, onDic_dic, onScr_scr, onWv_wv, onInt_int, onTup_tup, onLst_lst, onItems_lst, onItems_tup, frz1_own, frz1_val, frz1_un, ixD_lst, ixD_tup, ixL_int, optD_some, optI_some, absD_int, intD_int, intD_bool, lenD_lst, lenD_tup, lenD_str, tupleD_lst, tupleD_tup, listD_lst, listD_tup, min2D_int, max2D_int, sumD_ints, allD_bls, anyD_bls, slD_lst, slD_tup, slD_str, gNl_nil, gCs_cons, par2_two, seq1_lst, seq1_tup, rng1D_int, rng2D_int, gt_z, gt_s, sp_next_int, set_z, set_s, List.map_cons, List.map_nil, List.length_cons, List.length_nil, List.cons_append, List.nil_append, List.replicate, Nat.reduceAdd, Nat.reduceSub, Nat.zero_add, shaped_int, shaped_bool, shaped_none, shaped_listI, shaped_tupI, shaped_nilL, shaped_nilT, eqv_int, eqv_bool, eqv_str, eqv_none, eqv_list_nil, List.isEmpty_nil, List.isEmpty_cons, Bool.true_eq_false, Bool.false_eq_true, decide_eq_true_eq, and_self, true_and, and_true, not_dec, Bool.not_eq_true', decide_eq_false_iff_not, atI_0, atI_1, atI_2, ite_true, ite_false, if_true, if_false, reduceIte, Bool.not_true, Bool.not_false, not_true_eq_false, not_false_eq_true, List.set_cons_zero, List.set_cons_succ, dPar3, dRev, par3_three, sortedD_ints, revD_tup, two_nat, one_nat, three_nat, dCh3, dOwnC, dPutPar, putPar_two, dZip2, zip2D_lst, zip2D_tup, dPut, isBD_bl, isNotBD_bl, dNewO, dPutO, dSortedO, putKD_int, dPar3O, dParO2, par3O_two, parO2_one, minLD_lst, dKeysW, rdPairs_nil, rdPairs_cons, onPair_ii, revD_lst])
local macro_rules | `(tactic| walk_at "dd") => `(tactic| (walk_at "d1"; repeat (with_reducible (refine then_intro ?_); walk_at "d1")))
def rd_law_alike (self : Lay.Spec) : DTS :=
  (dSeq (dCond (dT (dIsi isTupD (dVar 1))) (dSeq (dCond (dTOr (dTNot (dT (dIsi isTupD (dVar 0)))) (dT (dOp neD (dB lenD (dCons (dVar 0) dNil)) (dB lenD (dCons (dVar 1) dNil))))) (dRet (dC (.bool false))) dSkip) (dRet (dOp eqD (dLc false (dRng1 (dCons (dB lenD (dCons (dVar 1) dNil)) dNil)) (gNm 2) (dTNot (dT (dCall self (dCons (dOp ixD (dVar 0) (dVar 2)) (dCons (dOp ixD (dVar 1) (dVar 2)) dNil))))) (dVar 2) [2]) (dLst dNil)))) dSkip) (dSeq (dCond (dT (dOp isD (dVar 1) (dC .none))) (dRet (dOp isD (dVar 0) (dC .none))) dSkip) (dSeq (dCond (dT (dIsi isBoolD (dVar 1))) (dRet (dAnd (dIsi isBoolD (dVar 0)) (dOp eqD (dVar 0) (dVar 1)))) dSkip) (dSeq (dCond (dT (dIsi isIntD (dVar 1))) (dRet (dAnd (dIsi isIntD (dVar 0)) (dAnd (dNot (dIsi isBoolD (dVar 0))) (dOp eqD (dVar 0) (dVar 1))))) dSkip) (dRet (dAnd (dIsi isStrD (dVar 0)) (dOp eqD (dVar 0) (dVar 1))))))))
mutual
/-- whether a value is this one (the first), part by part -/
def alike : D → D → Bool
  | .tuple ds, t => match t with | .tuple es => alikeAll ds es | _ => false
  | .none, t => isNon t
  | .bool b, t => match t with | .bool c => decide (c = b) | _ => false
  | .int b, t => match t with | .int c => decide (c = b) | _ => false
  | .str b, t => match t with | .str c => decide (c = b) | _ => false
  | .list _, _ => false
  | .dict _, _ => false
def alikeAll : List D → List D → Bool
  | [], es => es.isEmpty
  | d :: ds, es => match es with | e :: r => alike d e && alikeAll ds r | [] => false
end
mutual
def plainD : D → Bool
  | .tuple ds => decide (ds.length ≤ 1000000) && plainAll ds
  | .list _ => false
  | .dict _ => false
  | _ => true
def plainAll : List D → Bool
  | [] => true
  | d :: ds => plainD d && plainAll ds
end
def spn_law_alike (n : Nat) : Lay.Spec := fun ds R => match ds with
  | [told, due] => (PyData.depth due < n ∧ plainD due = true ∧ PyData.canLay0 due = true ∧ PyData.canLay0 told = true) ∧ R (.bool (alike due told))
  | _ => False
def sp_law_alike : Lay.Spec := spn_law_alike 8
theorem plainAll_mem : ∀ {ds : List D} {i : Nat} {d : D}, plainAll ds = true → ds[i]? = some d → plainD d = true
  | [], i, d, _, e => by simp at e
  | x :: r, 0, d, h, e => by
    simp at e; subst e
    rw [plainAll, Bool.and_eq_true] at h
    exact h.1
  | x :: r, i + 1, d, h, e => by
    rw [plainAll, Bool.and_eq_true] at h
    exact plainAll_mem h.2 (by simpa using e)
theorem canLayAll_mem : ∀ {ds : List D} {i : Nat} {d : D}, PyData.canLayAll0 ds = true → ds[i]? = some d → PyData.canLay0 d = true
  | [], i, d, _, e => by simp at e
  | x :: r, 0, d, h, e => by
    simp at e; subst e
    rw [cl_cons, Bool.and_eq_true] at h
    exact h.1
  | x :: r, i + 1, d, h, e => by
    rw [cl_cons, Bool.and_eq_true] at h
    exact canLayAll_mem h.2 (by simpa using e)
theorem depthAll_mem : ∀ {ds : List D} {i : Nat} {d : D}, ds[i]? = some d → PyData.depth d ≤ PyData.depthAll ds
  | [], i, d, e => by simp at e
  | x :: r, 0, d, e => by
    simp at e; subst e
    rw [dp_cons]; exact Nat.le_max_left _ _
  | x :: r, i + 1, d, e => by
    rw [dp_cons]
    exact Nat.le_trans (depthAll_mem (i := i) (by simpa using e)) (Nat.le_max_right _ _)
theorem alikeAll_iff : ∀ (ds es : List D), alikeAll ds es = true ↔ ds.length = es.length ∧ ∀ (i : Nat) (d e : D), ds[i]? = some d → es[i]? = some e → alike d e = true
  | [], [] => by simp [alikeAll]
  | [], _ :: _ => by simp [alikeAll]
  | _ :: _, [] => by simp [alikeAll]
  | d :: ds, e :: es => by
    rw [alikeAll, Bool.and_eq_true, alikeAll_iff ds es]
    refine ⟨fun ⟨h1, h2, h3⟩ => ⟨by simp [h2], fun i x y hx hy => ?_⟩, fun ⟨h1, h2⟩ => ⟨h2 0 d e rfl rfl, by simpa using h1, fun i x y hx hy => h2 (i + 1) x y (by simpa using hx) (by simpa using hy)⟩⟩
    cases i with
    | zero => simp at hx hy; subst hx hy; exact h1
    | succ i => exact h3 i x y (by simpa using hx) (by simpa using hy)
theorem filter_ints (xs : List D) (f : D → Option D) (h : ∀ d ∈ xs, f d = none ∨ ∃ i, f d = some (.int i)) : ∃ ns : List Int, xs.filterMap f = ns.map .int := by
  induction xs with
  | nil => exact ⟨[], rfl⟩
  | cons x xs ih =>
    obtain ⟨ns, e⟩ := ih fun d hd => h d (List.mem_cons_of_mem _ hd)
    rcases h x List.mem_cons_self with q | ⟨i, q⟩
    · exact ⟨ns, by rw [List.filterMap_cons_none q, e]⟩
    · exact ⟨i :: ns, by rw [List.filterMap_cons_some q, e]; rfl⟩
theorem shaped_of {d : D} (h1 : PyData.canLay0 d = true) (h2 : PyData.depth d ≤ 64) : SeqAt.shaped d = true := by
  unfold SeqAt.shaped
  rw [h1, decide_eq_true h2]; rfl
def alikeF (es ts : List D) : D → Option D := fun d => match d with
  | .int k => (match es[k.toNat]?, ts[k.toNat]? with
    | some e, some t => if alike e t = true then none else some (.int k)
    | _, _ => none)
  | _ => none
theorem ok_law_alike (n : Nat) : ∀ ds R, spn_law_alike (n + 1) ds R → rd_law_alike (spn_law_alike n) (fnE R) (startE 3 ds) := by
  intro ds R h
  unfold spn_law_alike at h
  split at h
  · rename_i told due
    obtain ⟨⟨hd, hp, hc, ht⟩, h⟩ := h
    unfold rd_law_alike
    cases due with
    | list _ => cases hp
    | dict _ => cases hp
    | none =>
      walk_at "dd"
      exact h
    | bool b =>
      walk_at "dd"
      cases told <;> walk_at "dd" <;> exact h
    | int b =>
      walk_at "dd"
      cases told <;> walk_at "dd" <;> exact h
    | str b =>
      walk_at "dd"
      cases told <;> walk_at "dd" <;> first | exact h | exact ⟨⟨shaped_of ht (Nat.zero_le _), shaped_of hc (Nat.zero_le _)⟩, h⟩
    | tuple es =>
      cases told with
      | tuple ts =>
        walk_at "dd"
        refine And.symm ⟨fun hl => ?_, fun hl => ?_⟩
        · have : alike (.tuple es) (.tuple ts) = false := by
            rw [alike, Bool.eq_false_iff]
            exact fun z => hl (by have := (alikeAll_iff es ts).mp z; omega)
          rw [this] at h
          exact h
        · have hl : ts.length = es.length := by omega
          walk_at "dd"
          rw [plainD, Bool.and_eq_true, decide_eq_true_eq] at hp
          obtain ⟨hp1, hp2⟩ := hp
          rw [cl_tup] at hc ht
          rw [dp_tup] at hd
          refine ⟨by omega, ?_⟩
          have en : ((es.length : Int)).toNat = es.length := by omega
          rw [en]
          refine lc_fun (alikeF es ts) (fun _ => ?_) (fun d hm P hP => ?_) ?_
          · rw [rangeD_length, sizeLine_eq]
            omega
          · obtain ⟨i, hi⟩ := List.getElem?_of_mem hm
            obtain ⟨h1, rfl⟩ := rangeD_get hi
            walk_at "dd"
            have h2 : i < ts.length := by omega
            have q1 : ts[i]? = some ts[i] := List.getElem?_eq_getElem h2
            have q2 : es[i]? = some es[i] := List.getElem?_eq_getElem h1
            have e0 : (0 : Int) + (i : Int) = (i : Int) := by omega
            rw [e0] at hP ⊢
            rw [atI_nat q1, atI_nat q2]
            simp only [alikeF, Int.toNat_natCast, q1, q2] at hP
            walk_at "dd"
            show spn_law_alike n [ts[i], es[i]] _
            refine ⟨⟨?_, plainAll_mem hp2 q2, canLayAll_mem hc q2, canLayAll_mem ht q1⟩, ?_⟩
            · have := depthAll_mem q2
              omega
            · walk_at "dd"
              cases hq : alike es[i] ts[i] with
              | true => rw [hq] at hP; exact hP
              | false => rw [hq] at hP; exact hP
          · obtain ⟨ns, hns⟩ := filter_ints (rangeD 0 es.length) (alikeF es ts) (fun d hm => by
              obtain ⟨i, hi⟩ := List.getElem?_of_mem hm
              obtain ⟨h1, rfl⟩ := rangeD_get hi
              simp only [alikeF]
              split
              · split
                · exact .inl rfl
                · exact .inr ⟨_, rfl⟩
              · exact .inl rfl)
            have key : (((rangeD 0 es.length).filterMap (alikeF es ts)).isEmpty) = alike (.tuple es) (.tuple ts) := by
              rw [alike, Bool.eq_iff_iff, List.isEmpty_iff, alikeAll_iff, List.filterMap_eq_nil_iff]
              refine ⟨fun z => ⟨hl.symm, fun i d e hx hy => ?_⟩, fun ⟨_, z⟩ d hm => ?_⟩
              · have hi : i < es.length := (List.getElem?_eq_some_iff.mp hx).1
                have hm : PyData.int (i : Int) ∈ rangeD 0 es.length := by
                  unfold rangeD
                  exact List.mem_map.mpr ⟨i, List.mem_range.mpr hi, by simp⟩
                have := z _ hm
                simp only [alikeF, Int.toNat_natCast, hx, hy] at this
                cases hq : alike d e with
                | true => rfl
                | false => rw [hq] at this; simp at this
              · obtain ⟨i, hi⟩ := List.getElem?_of_mem hm
                obtain ⟨h1, rfl⟩ := rangeD_get hi
                have h2 : i < ts.length := by omega
                have q1 : ts[i]? = some ts[i] := List.getElem?_eq_getElem h2
                have q2 : es[i]? = some es[i] := List.getElem?_eq_getElem h1
                have e0 : ((0 : Int) + (i : Int)).toNat = i := by omega
                simp only [alikeF, e0, q1, q2, z i _ _ q2 q1, if_true]
            rw [← key, ← eqv_list_nil, hns] at h
            rw [hns]
            exact ⟨shaped_listI ns, h⟩
      | _ => walk_at "dd"; exact h
  · exact h.elim
theorem no_law_alike : ∀ ds R, spn_law_alike 0 ds R → False := by
  intro ds R h
  unfold spn_law_alike at h
  split at h
  · exact absurd h.1.1 (Nat.not_lt_zero _)
  · exact h
local macro_rules | `(tactic| walk_at "d1") => `(tactic| try simp only [dSeq, dSkip, dPass, dRet, dRetN, dDrop, dCond, dAsg, gNm, gTp, dOwn, dOwnL, dPar, dAug, dApp, dExt, dFrz, dFor, dLc, dBreak, dCont, dVar, dC, dOp, dT, dIsi, dNeg, dNot, dTNot, dAnd, dOr, dTAnd, dTOr, dIf, dCh, dNil, dCons, dTup, dLst, dIxO, dB, dCall, dCallW, dItems, dRng1, dRng2, dYes, fnE, startE, startW, startS, dLenO, dLenS, dIxS, dSl, dPt, dNo, wipeE, addD_int, addD_str, addD_tup, addD_lst, subD_int, mulD_int, mulD_tup, mulD_lst, fdivD_int, modD_int, powD_int, shlD_int, shrD_int, andD_int, ltD_int, leD_int, gtD_int, geD_int, eqD_ap, neD_ap, isD_ap, isNotD_ap, isNon_none, isNon_int, isNon_bool, isNon_str, isNon_tup, isNon_lst, isInt_none, isInt_int, isInt_bool, isInt_str, isInt_tup, isInt_lst, isBool_none, isBool_int, isBool_bool, isBool_str, isBool_tup, isBool_lst, isStr_none, isStr_int, isStr_bool, isStr_str, isStr_tup, isStr_lst, isTup_none, isTup_int, isTup_bool, isTup_str, isTup_tup, isTup_lst, isLst_lst, Cnd_true, Cnd_false, Cnd_not, Cnd_dec, asB_bool, forall_const, true_implies, false_implies, implies_true, decide_true, decide_false, Classical.not_not, negD_int, notD_bool, onVal_val, onOwn_own, onDic_dic, onScr_scr, onWv_wv, onInt_int, onTup_tup, onLst_lst, onItems_lst, onItems_tup, frz1_own, frz1_val, frz1_un, ixD_lst, ixD_tup, ixL_int, optD_some, optI_some, absD_int, intD_int, intD_bool, lenD_lst, lenD_tup, lenD_str, tupleD_lst, tupleD_tup, listD_lst, listD_tup, min2D_int, max2D_int, sumD_ints, allD_bls, anyD_bls, slD_lst, slD_tup, slD_str, gNl_nil, gCs_cons, par2_two, seq1_lst, seq1_tup, rng1D_int, rng2D_int, gt_z, gt_s, sp_next_int, set_z, set_s, List.map_cons, List.map_nil, List.length_cons, List.length_nil, List.cons_append, List.nil_append, List.replicate, Nat.reduceAdd, Nat.reduceSub, Nat.zero_add, shaped_int, shaped_bool, shaped_none, shaped_listI, shaped_tupI, shaped_nilL, shaped_nilT, eqv_int, eqv_bool, eqv_str, eqv_none, eqv_list_nil, List.isEmpty_nil, List.isEmpty_cons, Bool.true_eq_false, Bool.false_eq_true, decide_eq_true_eq, and_self, true_and, and_true, not_dec, Bool.not_eq_true', decide_eq_false_iff_not, atI_0, atI_1, atI_2, ite_true, ite_false, if_true, if_false, reduceIte, Bool.not_true, Bool.not_false, not_true_eq_false, not_false_eq_true, List.set_cons_zero, List.set_cons_succ, dPar3, dRev, par3_three, sortedD_ints, revD_tup, two_nat, one_nat, three_nat, dCh3, dOwnC, dPutPar, putPar_two, dZip2, zip2D_lst, zip2D_tup, dPut, isBD_bl, isNotBD_bl, dNewO, dPutO, dSortedO, putKD_int, dPar3O, dParO2, par3O_two, parO2_one, minLD_lst, dKeysW, rdPairs_nil, rdPairs_cons, onPair_ii, revD_lst, spx_least_two, spx_size_of_two])
local macro_rules | `(tactic| walk_at "dd") => `(tactic| (walk_at "d1"; repeat (with_reducible (refine then_intro ?_); walk_at "d1")))
def rd_law_least_b1 : DTS :=
  (dSeq (dAsg (dOp fdivD (dOp subD (dVar 1) (dVar 2)) (dOp mulD (dC (.int 2)) (dVar 1))) (gNm 4)) (dSeq (dPar3 1 2 3 (dCons (dVar 1) (dCons (dOp addD (dVar 2) (dOp mulD (dOp mulD (dC (.int 2)) (dVar 1)) (dVar 4))) (dCons (dOp addD (dOp addD (dOp mulD (dOp mulD (dVar 1) (dVar 4)) (dVar 4)) (dOp mulD (dVar 2) (dVar 4))) (dVar 3)) dNil)))) (dSeq (dCond (dTOr (dT (dOp ltD (dVar 1) (dVar 3))) (dTAnd (dT (dOp eqD (dVar 1) (dVar 3))) (dT (dOp geD (dVar 2) (dC (.int 0)))))) (dRet (dTup (dCons (dVar 1) (dCons (dVar 2) (dCons (dVar 3) dNil))))) dSkip) (dPar3 1 2 3 (dCons (dVar 3) (dCons (dNeg (dVar 2)) (dCons (dVar 1) dNil)))))))
def rd_law_least : DTS :=
  (dSeq (dAsg (dVar 0) (gTp 3 (gCs (gNm 1) (gCs (gNm 2) (gCs (gNm 3) gNl))))) (dWhile (dT (dC (.bool true))) rd_law_least_b1))
def sp_law_least : Lay.Spec := fun ds R => match ds with
  | [.tuple [.int a, .int b, .int c]] => (0 < a ∧ disc (a, b, c) < 0 ∧ ∃ k : Nat, k ≤ 1000 ∧ SmF k (a, b, c)) ∧ ∀ g : Form, Eqv (a, b, c) g → Red g → R (formD g)
  | _ => False
theorem spx_law_least {a b c : Int} {R : D → Prop} : sp_law_least [.tuple [.int a, .int b, .int c]] R = ((0 < a ∧ disc (a, b, c) < 0 ∧ ∃ k : Nat, k ≤ 1000 ∧ SmF k (a, b, c)) ∧ ∀ g : Form, Eqv (a, b, c) g → Red g → R (formD g)) := rfl
theorem shift_zero (f : Form) : shiftF 0 f = f := by
  refine form_ext rfl ?_ ?_ <;> unfold shiftF <;> simp only <;> omega
theorem disc_bits {a b c : Int} {k : Nat} (ha : 0 < a) (hd : disc (a, b, c) < 0) (ab : a.natAbs < 2 ^ k) (bb : b.natAbs < 2 ^ k) (cb : c.natAbs < 2 ^ k) : (disc (a, b, c)).natAbs < 2 ^ (2 * k + 3) := by
  have h1 := bits_mul bb bb
  have e1 : 2 ^ (2 * k + 3) = 2 ^ (2 * k) * 8 := Nat.pow_add 2 (2 * k) 3
  have e2 : 2 ^ (k + k) = 2 ^ (2 * k) := by rw [show k + k = 2 * k by omega]
  rw [e2] at h1
  have h4 : (4 * a * c).natAbs < 2 ^ (2 * k) * 4 := by
    have := bits_mul ab cb
    rw [e2] at this
    rw [Int.mul_assoc, Int.natAbs_mul]
    show 4 * (a * c).natAbs < _
    omega
  have hdd : disc (a, b, c) = b * b - 4 * a * c := rfl
  rw [hdd] at hd ⊢
  rw [e1]
  generalize 2 ^ (2 * k) = T at *
  generalize b * b = B at *
  generalize 4 * a * c = C at *
  omega
theorem ok_law_least : ∀ ds R, sp_law_least ds R → rd_law_least (fnE R) (startE 5 ds) := by
  intro ds R h
  unfold sp_law_least at h
  split at h
  · rename_i a b c
    obtain ⟨⟨ha, hd, k, hk, ab, bb, cb⟩, h⟩ := h
    have db := disc_bits ha hd ab bb cb
    have hLe0 : LeI (a, b, c) k (a, b, c) := ⟨ha, .refl _, fun _ => rfl, ab, bb, bits_mono cb (by omega)⟩
    unfold rd_law_least
    walk_at "dd"
    refine while_by (fun (s : Form × Sl) => [.val (.tuple [.int a, .int b, .int c]), .val (.int s.1.1), .val (.int s.1.2.1), .val (.int s.1.2.2), s.2]) (fun s => LeI (a, b, c) k s.1) (fun s => leM s.1) ((a, b, c), .un) rfl hLe0 ?_
    rintro ⟨f, u⟩ hi bk
    simp only at hi
    walk_at "dd"
    -- behind the shift
    have sh : ∃ g, g = shiftF ((f.1 - f.2.1) / (2 * f.1)) f ∧ LeI (a, b, c) k g ∧ leM g ≤ leM f ∧ -g.1 < g.2.1 ∧ g.2.1 ≤ g.1 := by
      have a0 := hi.a0
      have e := Int.mul_ediv_add_emod (f.1 - f.2.1) (2 * f.1)
      have r0 := Int.emod_nonneg (f.1 - f.2.1) (show 2 * f.1 ≠ 0 by omega)
      have r1 := Int.emod_lt_of_pos (f.1 - f.2.1) (show 0 < 2 * f.1 by omega)
      have hb : (shiftF ((f.1 - f.2.1) / (2 * f.1)) f).2.1 = f.1 - (f.1 - f.2.1) % (2 * f.1) := by
        show f.2.1 + 2 * ((f.1 - f.2.1) / (2 * f.1)) * f.1 = _
        have : 2 * f.1 * ((f.1 - f.2.1) / (2 * f.1)) = 2 * ((f.1 - f.2.1) / (2 * f.1)) * f.1 := by grind
        omega
      have hr : -(shiftF ((f.1 - f.2.1) / (2 * f.1)) f).1 < (shiftF ((f.1 - f.2.1) / (2 * f.1)) f).2.1 ∧ (shiftF ((f.1 - f.2.1) / (2 * f.1)) f).2.1 ≤ (shiftF ((f.1 - f.2.1) / (2 * f.1)) f).1 := by
        rw [hb]
        show -f.1 < _ ∧ _ ≤ f.1
        omega
      by_cases z : -f.1 < f.2.1 ∧ f.2.1 ≤ f.1
      · have t0 : (f.1 - f.2.1) / (2 * f.1) = 0 := Int.ediv_eq_zero_of_lt (by omega) (by omega)
        refine ⟨_, rfl, ?_, ?_, hr⟩ <;> rw [t0, shift_zero]
        · exact hi
        · exact Nat.le_refl _
      · obtain ⟨s1, s2⟩ := hi.shift hd db z
        exact ⟨_, rfl, s1, by omega, hr⟩
    obtain ⟨g, eg, gi, gm, g1, g2⟩ := sh
    have a0 := hi.a0
    have b2 := bits_mul (x := 2) (n := 2) (by decide) hi.ab
    have bd : (f.1 - f.2.1).natAbs < 2 ^ (k + k + 1) := by
      have := bits_add hi.ab (y := -f.2.1) (m := k) (by rw [Int.natAbs_neg]; exact hi.bb)
      rwa [← Int.sub_eq_add_neg] at this
    have bq : ((f.1 - f.2.1) / (2 * f.1)).natAbs < 2 ^ (k + k + 1) := Nat.lt_of_le_of_lt (Int.natAbs_ediv_le_natAbs _ _) bd
    unfold rd_law_least_b1
    walk_at "dd"
    refine ⟨mulOk (x := 2) (n := 2) (by decide) hi.ab (by omega), divOk (by omega) b2 (by omega), ?_⟩
    rw [fdiv_pos _ (by omega)]
    generalize (f.1 - f.2.1) / (2 * f.1) = t at *
    have bt2 := bits_mul hi.ab bq
    have hk1 := hi.ab
    have hk2 := hi.bb
    refine then_intro ?_
    walk_at "dd"
    have e1 : f.1 = g.1 := by rw [eg]; rfl
    have e2 : f.2.1 + 2 * f.1 * t = g.2.1 := by rw [eg]; show _ = f.2.1 + 2 * t * f.1; grind
    have e3 : f.1 * t * t + f.2.1 * t + f.2.2 = g.2.2 := by rw [eg]; show _ = f.2.2 + t * f.2.1 + t * t * f.1; grind
    refine ⟨mulOk (x := 2) (n := 2) (by decide) hi.ab (by omega), mulOk b2 bq (by omega), mulOk hi.ab bq (by omega), mulOk bt2 bq (by omega), mulOk hi.bb bq (by omega), ?_⟩
    rw [e2, e3, e1]
    have stop : Red g → R (formD g) := fun hr => h g gi.eq.eqv hr
    have sw : ¬ Red g → ∃ a' : Form × Sl, [Sl.val (.tuple [.int a, .int b, .int c]), .val (.int g.2.2), .val (.int (-g.2.1)), .val (.int g.1), .val (.int t)] = [.val (.tuple [.int a, .int b, .int c]), .val (.int a'.1.1), .val (.int a'.1.2.1), .val (.int a'.1.2.2), a'.2] ∧ LeI (a, b, c) k a'.1 ∧ leM a'.1 < leM f := fun hn => by
      obtain ⟨s1, s2⟩ := gi.swap hd ⟨g1, g2⟩ hn
      exact ⟨(swapF g, .val (.int t)), rfl, s1, Nat.lt_of_lt_of_le s2 gm⟩
    refine then_intro ?_
    walk_at "dd"
    refine ⟨fun h1 => stop ⟨g1, g2, by omega, fun z => by omega⟩, fun h1 => ⟨fun h2 => ⟨fun h3 => stop ⟨g1, g2, by omega, fun z => by omega⟩, fun h3 => sw fun z => z.2.2.2 ⟨h2, by omega⟩⟩, fun h2 => sw fun z => ?_⟩⟩
    have := z.2.2.1
    omega
  · exact h.elim
local macro_rules | `(tactic| walk_at "d1") => `(tactic| try simp only [dSeq, dSkip, dPass, dRet, dRetN, dDrop, dCond, dAsg, gNm, gTp, dOwn, dOwnL, dPar, dAug, dApp, dExt, dFrz, dFor, dLc, dBreak, dCont, dVar, dC, dOp, dT, dIsi, dNeg, dNot, dTNot, dAnd, dOr, dTAnd, dTOr, dIf, dCh, dNil, dCons, dTup, dLst, dIxO, dB, dCall, dCallW, dItems, dRng1, dRng2, dYes, fnE, startE, startW, startS, dLenO, dLenS, dIxS, dSl, dPt, dNo, wipeE, addD_int, addD_str, addD_tup, addD_lst, subD_int, mulD_int, mulD_tup, mulD_lst, fdivD_int, modD_int, powD_int, shlD_int, shrD_int, andD_int, ltD_int, leD_int, gtD_int, geD_int, eqD_ap, neD_ap, isD_ap, isNotD_ap, isNon_none, isNon_int, isNon_bool, isNon_str, isNon_tup, isNon_lst, isInt_none, isInt_int, isInt_bool, isInt_str, isInt_tup, isInt_lst, isBool_none, isBool_int, isBool_bool, isBool_str, isBool_tup, isBool_lst, isStr_none, isStr_int, isStr_bool, isStr_str, isStr_tup, isStr_lst, isTup_none, isTup_int, isTup_bool, isTup_str, isTup_tup, isTup_lst, isLst_lst, Cnd_true, Cnd_false, Cnd_not, Cnd_dec, asB_bool, forall_const, true_implies, false_implies, implies_true, decide_true, decide_false, Classical.not_not, negD_int, notD_bool, onVal_val, onOwn_own, onDic_dic, onScr_scr, onWv_wv, onInt_int, onTup_tup, onLst_lst, onItems_lst, onItems_tup, frz1_own, frz1_val, frz1_un, ixD_lst, ixD_tup, ixL_int, optD_some, optI_some, absD_int, intD_int, intD_bool, lenD_lst, lenD_tup, lenD_str, tupleD_lst, tupleD_tup, listD_lst, listD_tup, min2D_int, max2D_int, sumD_ints, allD_bls, anyD_bls, slD_lst, slD_tup, slD_str, gNl_nil, gCs_cons, par2_two, seq1_lst, seq1_tup, rng1D_int, rng2D_int, gt_z, gt_s, sp_next_int, set_z, set_s, List.map_cons, List.map_nil, List.length_cons, List.length_nil, List.cons_append, List.nil_append, List.replicate, Nat.reduceAdd, Nat.reduceSub, Nat.zero_add, shaped_int, shaped_bool, shaped_none, shaped_listI, shaped_tupI, shaped_nilL, shaped_nilT, eqv_int, eqv_bool, eqv_str, eqv_none, eqv_list_nil, List.isEmpty_nil, List.isEmpty_cons, Bool.true_eq_false, Bool.false_eq_true, decide_eq_true_eq, and_self, true_and, and_true, not_dec, Bool.not_eq_true', decide_eq_false_iff_not, atI_0, atI_1, atI_2, ite_true, ite_false, if_true, if_false, reduceIte, Bool.not_true, Bool.not_false, not_true_eq_false, not_false_eq_true, List.set_cons_zero, List.set_cons_succ, dPar3, dRev, par3_three, sortedD_ints, revD_tup, two_nat, one_nat, three_nat, dCh3, dOwnC, dPutPar, putPar_two, dZip2, zip2D_lst, zip2D_tup, dPut, isBD_bl, isNotBD_bl, dNewO, dPutO, dSortedO, putKD_int, dPar3O, dParO2, par3O_two, parO2_one, minLD_lst, dKeysW, rdPairs_nil, rdPairs_cons, onPair_ii, revD_lst])
local macro_rules | `(tactic| walk_at "dd") => `(tactic| (walk_at "d1"; repeat (with_reducible (refine then_intro ?_); walk_at "d1")))
def rd_law_below_nothing : DTS :=
  (dRet (dOp subD (dOp mulD (dOp ixD (dVar 0) (dC (.int 1))) (dOp ixD (dVar 0) (dC (.int 1)))) (dOp mulD (dOp mulD (dC (.int 4)) (dOp ixD (dVar 0) (dC (.int 0)))) (dOp ixD (dVar 0) (dC (.int 2))))))
def sp_law_below_nothing : Lay.Spec := fun ds R => match ds with
  | [.tuple [.int a, .int b, .int c]] => (∃ k : Nat, k ≤ 100000 ∧ a.natAbs < 2 ^ k ∧ b.natAbs < 2 ^ k ∧ c.natAbs < 2 ^ k) ∧ R (.int (disc (a, b, c)))
  | _ => False
theorem ok_law_below_nothing : ∀ ds R, sp_law_below_nothing ds R → rd_law_below_nothing (fnE R) (startE 1 ds) := by
  intro ds R h
  unfold sp_law_below_nothing at h
  split at h
  · rename_i a b c
    obtain ⟨⟨k, hk, ha, hb, hc⟩, h⟩ := h
    have h2 := bits_mul (x := 4) (n := 3) (by decide) ha
    unfold rd_law_below_nothing
    walk_at "dd"
    exact ⟨mulOk hb hb (by omega), mulOk (x := 4) (n := 3) (by decide) ha (by omega), mulOk h2 hc (by omega), h⟩
  · exact h.elim
theorem spx_law_below_nothing {a b c : Int} {R : D → Prop} : sp_law_below_nothing [.tuple [.int a, .int b, .int c]] R = ((∃ k : Nat, k ≤ 100000 ∧ a.natAbs < 2 ^ k ∧ b.natAbs < 2 ^ k ∧ c.natAbs < 2 ^ k) ∧ R (.int (disc (a, b, c)))) := rfl
local macro_rules | `(tactic| walk_at "d1") => `(tactic| try simp only [dSeq, dSkip, dPass, dRet, dRetN, dDrop, dCond, dAsg, gNm, gTp, dOwn, dOwnL, dPar, dAug, dApp, dExt, dFrz, dFor, dLc, dBreak, dCont, dVar, dC, dOp, dT, dIsi, dNeg, dNot, dTNot, dAnd, dOr, dTAnd, dTOr, dIf, dCh, dNil, dCons, dTup, dLst, dIxO, dB, dCall, dCallW, dItems, dRng1, dRng2, dYes, fnE, startE, startW, startS, dLenO, dLenS, dIxS, dSl, dPt, dNo, wipeE, addD_int, addD_str, addD_tup, addD_lst, subD_int, mulD_int, mulD_tup, mulD_lst, fdivD_int, modD_int, powD_int, shlD_int, shrD_int, andD_int, ltD_int, leD_int, gtD_int, geD_int, eqD_ap, neD_ap, isD_ap, isNotD_ap, isNon_none, isNon_int, isNon_bool, isNon_str, isNon_tup, isNon_lst, isInt_none, isInt_int, isInt_bool, isInt_str, isInt_tup, isInt_lst, isBool_none, isBool_int, isBool_bool, isBool_str, isBool_tup, isBool_lst, isStr_none, isStr_int, isStr_bool, isStr_str, isStr_tup, isStr_lst, isTup_none, isTup_int, isTup_bool, isTup_str, isTup_tup, isTup_lst, isLst_lst, Cnd_true, Cnd_false, Cnd_not, Cnd_dec, asB_bool, forall_const, true_implies, false_implies, implies_true, decide_true, decide_false, Classical.not_not, negD_int, notD_bool, onVal_val, onOwn_own, onDic_dic, onScr_scr, onWv_wv, onInt_int, onTup_tup, onLst_lst, onItems_lst, onItems_tup, frz1_own, frz1_val, frz1_un, ixD_lst, ixD_tup, ixL_int, optD_some, optI_some, absD_int, intD_int, intD_bool, lenD_lst, lenD_tup, lenD_str, tupleD_lst, tupleD_tup, listD_lst, listD_tup, min2D_int, max2D_int, sumD_ints, allD_bls, anyD_bls, slD_lst, slD_tup, slD_str, gNl_nil, gCs_cons, par2_two, seq1_lst, seq1_tup, rng1D_int, rng2D_int, gt_z, gt_s, sp_next_int, set_z, set_s, List.map_cons, List.map_nil, List.length_cons, List.length_nil, List.cons_append, List.nil_append, List.replicate, Nat.reduceAdd, Nat.reduceSub, Nat.zero_add, shaped_int, shaped_bool, shaped_none, shaped_listI, shaped_tupI, shaped_nilL, shaped_nilT, eqv_int, eqv_bool, eqv_str, eqv_none, eqv_list_nil, List.isEmpty_nil, List.isEmpty_cons, Bool.true_eq_false, Bool.false_eq_true, decide_eq_true_eq, and_self, true_and, and_true, not_dec, Bool.not_eq_true', decide_eq_false_iff_not, atI_0, atI_1, atI_2, ite_true, ite_false, if_true, if_false, reduceIte, Bool.not_true, Bool.not_false, not_true_eq_false, not_false_eq_true, List.set_cons_zero, List.set_cons_succ, dPar3, dRev, par3_three, sortedD_ints, revD_tup, two_nat, one_nat, three_nat, dCh3, dOwnC, dPutPar, putPar_two, dZip2, zip2D_lst, zip2D_tup, dPut, isBD_bl, isNotBD_bl, dNewO, dPutO, dSortedO, putKD_int, dPar3O, dParO2, par3O_two, parO2_one, minLD_lst, dKeysW, rdPairs_nil, rdPairs_cons, onPair_ii, revD_lst])
local macro_rules | `(tactic| walk_at "dd") => `(tactic| (walk_at "d1"; repeat (with_reducible (refine then_intro ?_); walk_at "d1")))
def rd_root_of_b1 : DTS :=
  (dSeq (dAsg (dVar 2) (gNm 1)) (dAsg (dOp fdivD (dOp addD (dVar 1) (dOp fdivD (dVar 0) (dVar 1))) (dC (.int 2))) (gNm 2)))
def rd_root_of : DTS :=
  (dSeq (dCond (dT (dOp ltD (dVar 0) (dC (.int 2)))) (dRet (dVar 0)) dSkip) (dSeq (dAsg (dVar 0) (gNm 1)) (dSeq (dAsg (dOp fdivD (dOp addD (dVar 1) (dC (.int 1))) (dC (.int 2))) (gNm 2)) (dSeq (dWhile (dT (dOp ltD (dVar 2) (dVar 1))) rd_root_of_b1) (dRet (dVar 1))))))
def sp_root_of : Lay.Spec := fun ds R => match ds with
  | [.int n] => (∃ k : Nat, k ≤ 4000 ∧ n.natAbs < 2 ^ k) ∧ (n < 0 → R (.int n)) ∧ (0 ≤ n → ∀ x : Int, 0 ≤ x → x * x ≤ n → n < (x + 1) * (x + 1) → R (.int x))
  | _ => False
structure NewI (n x y : Int) : Prop where
  x1 : 1 ≤ x
  xn : x ≤ n
  hi : n < (x + 1) * (x + 1)
  hy : y = (x + n / x) / 2
theorem sq_nonneg' (a : Int) : 0 ≤ a * a := by
  rcases Int.le_total 0 a with h | h
  · exact Int.mul_nonneg h h
  · exact Int.mul_nonneg_of_nonpos_of_nonpos h h
theorem NewI.start {n : Int} (h : 2 ≤ n) : NewI n n ((n + 1) / 2) := by
  refine ⟨by omega, Int.le_refl _, ?_, by rw [Int.ediv_self (by omega)]⟩
  have := sq_nonneg' n
  grind
theorem NewI.step {n x y : Int} (h2 : 2 ≤ n) (h : NewI n x y) (lt : y < x) : NewI n y ((y + n / y) / 2) := by
  obtain ⟨x1, xn, hi, hy⟩ := h
  have e := Int.mul_ediv_add_emod n x
  have r0 := Int.emod_nonneg n (show x ≠ 0 by omega)
  have r1 := Int.emod_lt_of_pos n (show 0 < x by omega)
  have q0 : 0 ≤ n / x := Int.ediv_nonneg (by omega) (by omega)
  generalize n / x = q at *
  generalize n % x = r at *
  refine ⟨?_, by omega, ?_, rfl⟩
  · by_cases z : x = 1
    · subst z
      omega
    · omega
  · have d0 := sq_nonneg' (x - q - 1)
    have t0 : 0 ≤ 2 * (y + 1) - (x + q + 1) := by omega
    have s0 : 0 ≤ x + q + 1 := by omega
    have p := Int.mul_nonneg s0 t0
    have p2 := sq_nonneg' (2 * (y + 1) - (x + q + 1))
    have e1 : 4 * ((y + 1) * (y + 1)) = (x + q + 1) * (x + q + 1) + 2 * ((x + q + 1) * (2 * (y + 1) - (x + q + 1))) + (2 * (y + 1) - (x + q + 1)) * (2 * (y + 1) - (x + q + 1)) := by grind
    have e2 : (x + q + 1) * (x + q + 1) = 4 * (x * q) + (x - q - 1) * (x - q - 1) + 4 * x := by grind
    omega
theorem NewI.fin {n x y : Int} (h : NewI n x y) (lt : ¬ y < x) : x * x ≤ n := by
  obtain ⟨x1, xn, hi, hy⟩ := h
  have e := Int.mul_ediv_add_emod n x
  have r0 := Int.emod_nonneg n (show x ≠ 0 by omega)
  have hq : x ≤ n / x := by omega
  have := Int.mul_le_mul_of_nonneg_left hq (show 0 ≤ x by omega)
  omega
theorem root_le {n x : Int} (h0 : 0 ≤ x) (h : x * x ≤ n) : x ≤ n := by
  by_cases z : x = 0
  · subst z; omega
  · have := Int.mul_le_mul_of_nonneg_left (show 1 ≤ x by omega) h0
    omega
theorem root_uniq {n x y : Int} (x0 : 0 ≤ x) (y0 : 0 ≤ y) (h1 : x * x ≤ n) (h2 : n < (x + 1) * (x + 1)) (g1 : y * y ≤ n) (g2 : n < (y + 1) * (y + 1)) : x = y := by
  have key : ∀ {a b : Int}, 0 ≤ a → 0 ≤ b → n < (a + 1) * (a + 1) → b * b ≤ n → b ≤ a := fun {a b} a0 b0 p q => by
    by_cases z : b ≤ a
    · exact z
    · have h1 : a + 1 ≤ b := by omega
      have h2 := Int.mul_le_mul h1 h1 (by omega) b0
      omega
  exact Int.le_antisymm (key y0 x0 g2 h1) (key x0 y0 h2 g1)
theorem ok_root_of : ∀ ds R, sp_root_of ds R → rd_root_of (fnE R) (startE 3 ds) := by
  intro ds R h
  unfold sp_root_of at h
  split at h
  · rename_i n
    obtain ⟨⟨k, hk, hb⟩, hneg, h⟩ := h
    unfold rd_root_of
    walk_at "dd"
    refine ⟨fun h2 => ?_, fun h2 => ?_⟩
    · by_cases z : n < 0
      · exact hneg z
      · refine h (by omega) n (by omega) ?_ ?_
        · rcases (show n = 0 ∨ n = 1 by omega) with e | e <;> subst e <;> decide
        · rcases (show n = 0 ∨ n = 1 by omega) with e | e <;> subst e <;> decide
    · walk_at "dd"
      refine ⟨divOk (by decide) (n := 2) (by decide) (by decide), ?_⟩
      rw [fdiv_pos _ (by decide : (0 : Int) < 2)]
      refine while_by (fun (s : Int × Int) => [.val (.int n), .val (.int s.1), .val (.int s.2)]) (fun s => NewI n s.1 s.2) (fun s => s.1.toNat) (n, (n + 1) / 2) rfl (NewI.start (by omega)) ?_
      rintro ⟨x, y⟩ hi bk
      simp only at hi
      walk_at "dd"
      refine ⟨fun lt => ?_, fun lt => ?_⟩
      · unfold rd_root_of_b1
        walk_at "dd"
        have hi' := NewI.step (by omega) hi lt
        have y1 := hi'.x1
        have yn := hi'.xn
        refine ⟨divOk (by omega) (n := k) (by omega) (by omega), divOk (by decide) (n := 2) (by decide) (by decide), ?_⟩
        rw [fdiv_pos _ (by decide : (0 : Int) < 2), fdiv_pos _ (by omega : (0 : Int) < y)]
        refine ⟨(_, _), rfl, hi', ?_⟩
        have := hi.x1
        show y.toNat < x.toNat
        omega
      · walk_at "dd"
        exact h (by omega) x (by have := hi.x1; omega) (hi.fin lt) hi.hi
  · exact h.elim
local macro_rules | `(tactic| walk_at "d1") => `(tactic| try simp only [dSeq, dSkip, dPass, dRet, dRetN, dDrop, dCond, dAsg, gNm, gTp, dOwn, dOwnL, dPar, dAug, dApp, dExt, dFrz, dFor, dLc, dBreak, dCont, dVar, dC, dOp, dT, dIsi, dNeg, dNot, dTNot, dAnd, dOr, dTAnd, dTOr, dIf, dCh, dNil, dCons, dTup, dLst, dIxO, dB, dCall, dCallW, dItems, dRng1, dRng2, dYes, fnE, startE, startW, startS, dLenO, dLenS, dIxS, dSl, dPt, dNo, wipeE, addD_int, addD_str, addD_tup, addD_lst, subD_int, mulD_int, mulD_tup, mulD_lst, fdivD_int, modD_int, powD_int, shlD_int, shrD_int, andD_int, ltD_int, leD_int, gtD_int, geD_int, eqD_ap, neD_ap, isD_ap, isNotD_ap, isNon_none, isNon_int, isNon_bool, isNon_str, isNon_tup, isNon_lst, isInt_none, isInt_int, isInt_bool, isInt_str, isInt_tup, isInt_lst, isBool_none, isBool_int, isBool_bool, isBool_str, isBool_tup, isBool_lst, isStr_none, isStr_int, isStr_bool, isStr_str, isStr_tup, isStr_lst, isTup_none, isTup_int, isTup_bool, isTup_str, isTup_tup, isTup_lst, isLst_lst, Cnd_true, Cnd_false, Cnd_not, Cnd_dec, asB_bool, forall_const, true_implies, false_implies, implies_true, decide_true, decide_false, Classical.not_not, negD_int, notD_bool, onVal_val, onOwn_own, onDic_dic, onScr_scr, onWv_wv, onInt_int, onTup_tup, onLst_lst, onItems_lst, onItems_tup, frz1_own, frz1_val, frz1_un, ixD_lst, ixD_tup, ixL_int, optD_some, optI_some, absD_int, intD_int, intD_bool, lenD_lst, lenD_tup, lenD_str, tupleD_lst, tupleD_tup, listD_lst, listD_tup, min2D_int, max2D_int, sumD_ints, allD_bls, anyD_bls, slD_lst, slD_tup, slD_str, gNl_nil, gCs_cons, par2_two, seq1_lst, seq1_tup, rng1D_int, rng2D_int, gt_z, gt_s, sp_next_int, set_z, set_s, List.map_cons, List.map_nil, List.length_cons, List.length_nil, List.cons_append, List.nil_append, List.replicate, Nat.reduceAdd, Nat.reduceSub, Nat.zero_add, shaped_int, shaped_bool, shaped_none, shaped_listI, shaped_tupI, shaped_nilL, shaped_nilT, eqv_int, eqv_bool, eqv_str, eqv_none, eqv_list_nil, List.isEmpty_nil, List.isEmpty_cons, Bool.true_eq_false, Bool.false_eq_true, decide_eq_true_eq, and_self, true_and, and_true, not_dec, Bool.not_eq_true', decide_eq_false_iff_not, atI_0, atI_1, atI_2, ite_true, ite_false, if_true, if_false, reduceIte, Bool.not_true, Bool.not_false, not_true_eq_false, not_false_eq_true, List.set_cons_zero, List.set_cons_succ, dPar3, dRev, par3_three, sortedD_ints, revD_tup, two_nat, one_nat, three_nat, dCh3, dOwnC, dPutPar, putPar_two, dZip2, zip2D_lst, zip2D_tup, dPut, isBD_bl, isNotBD_bl, dNewO, dPutO, dSortedO, putKD_int, dPar3O, dParO2, par3O_two, parO2_one, minLD_lst, dKeysW, rdPairs_nil, rdPairs_cons, onPair_ii, revD_lst])
local macro_rules | `(tactic| walk_at "dd") => `(tactic| (walk_at "d1"; repeat (with_reducible (refine then_intro ?_); walk_at "d1")))
def rd_roots_for : DTS :=
  (dSeq (dAsg (dOp subD (dOp mulD (dVar 1) (dVar 1)) (dOp mulD (dOp mulD (dC (.int 4)) (dVar 0)) (dVar 2))) (gNm 3)) (dSeq (dCond (dT (dOp ltD (dVar 3) (dC (.int 0)))) (dRet (dLst dNil)) dSkip) (dSeq (dAsg (dCall sp_root_of (dCons (dVar 3) dNil)) (gNm 4)) (dSeq (dCond (dT (dOp neD (dOp mulD (dVar 4) (dVar 4)) (dVar 3))) (dRet (dLst dNil)) dSkip) (dRet (dB setSortD (dCons (dLc true (dItems (dTup (dCons (dOp addD (dNeg (dVar 1)) (dVar 4)) (dCons (dOp subD (dNeg (dVar 1)) (dVar 4)) dNil)))) (gNm 5) (dT (dOp eqD (dOp modD (dVar 5) (dOp mulD (dC (.int 2)) (dVar 0))) (dC (.int 0)))) (dOp fdivD (dVar 5) (dOp mulD (dC (.int 2)) (dVar 0))) [5]) dNil)))))))
def QRoots (a b c : Int) (xs : List Int) : Prop := xs.Pairwise (· < ·) ∧ xs.length ≤ 2 ∧ ∀ x, x ∈ xs ↔ a * x * x + b * x + c = 0
def sp_roots_for : Lay.Spec := fun ds R => match ds with
  | [.int a, .int b, .int c] => (0 < a ∧ ∃ k : Nat, k ≤ 1000 ∧ a.natAbs < 2 ^ k ∧ b.natAbs < 2 ^ k ∧ c.natAbs < 2 ^ k) ∧ ∀ xs : List Int, QRoots a b c xs → R (.list (xs.map .int))
  | _ => False
theorem spx_roots_for {a b c : Int} {R : D → Prop} : sp_roots_for [.int a, .int b, .int c] R = ((0 < a ∧ ∃ k : Nat, k ≤ 1000 ∧ a.natAbs < 2 ^ k ∧ b.natAbs < 2 ^ k ∧ c.natAbs < 2 ^ k) ∧ ∀ xs : List Int, QRoots a b c xs → R (.list (xs.map .int))) := rfl
theorem quad_sq (a b c x : Int) : (2 * a * x + b) * (2 * a * x + b) - (b * b - 4 * a * c) = 4 * a * (a * x * x + b * x + c) := by grind
theorem quad_iff {a b c x : Int} (ha : 0 < a) : a * x * x + b * x + c = 0 ↔ (2 * a * x + b) * (2 * a * x + b) = b * b - 4 * a * c := by
  have e := quad_sq a b c x
  constructor
  · intro h
    rw [h, Int.mul_zero] at e
    omega
  · intro h
    have : 4 * a * (a * x * x + b * x + c) = 0 := by omega
    exact (Int.mul_eq_zero.mp this).resolve_left (by omega)
theorem sq_eq {u r : Int} (h : u * u = r * r) : u = r ∨ u = -r := by
  have : (u - r) * (u + r) = 0 := by grind
  rcases Int.mul_eq_zero.mp this with z | z
  · left; omega
  · right; omega
theorem not_sq {u r n : Int} (h0 : 0 ≤ r) (h1 : r * r < n) (h2 : n < (r + 1) * (r + 1)) (h : u * u = n) : False := by
  rcases Int.le_total 0 u with z | z
  · rcases (show u ≤ r ∨ r + 1 ≤ u by omega) with w | w
    · have := Int.mul_le_mul w w z h0; omega
    · have := Int.mul_le_mul w w (by omega) (by omega); omega
  · rcases (show -u ≤ r ∨ r + 1 ≤ -u by omega) with w | w
    · have := Int.mul_le_mul w w (by omega) h0
      have : -u * -u = u * u := Int.neg_mul_neg ..
      omega
    · have := Int.mul_le_mul w w (by omega) (by omega)
      have : -u * -u = u * u := Int.neg_mul_neg ..
      omega
theorem ok_roots_for : ∀ ds R, sp_roots_for ds R → rd_roots_for (fnE R) (startE 6 ds) := by
  intro ds R h
  unfold sp_roots_for at h
  split at h
  · rename_i a b c
    obtain ⟨⟨ha, k, hk, ab, bb, cb⟩, h⟩ := h
    have b4 := bits_mul (x := 4) (n := 3) (by decide) ab
    have b4c := bits_mul b4 cb
    have bbb := bits_mul bb bb
    have hsz : 5000 < sizeLine := by decide
    generalize hL : b * b - 4 * a * c = left
    have lb : left.natAbs < 2 ^ (2 * k + 5) := by
      have e1 : 2 ^ (2 * k + 5) = 2 ^ (2 * k) * 32 := Nat.pow_add 2 (2 * k) 5
      have e2 : 2 ^ (3 + k + k) = 2 ^ (2 * k) * 8 := by rw [show 3 + k + k = 2 * k + 3 by omega]; exact Nat.pow_add 2 (2 * k) 3
      have e3 : 2 ^ (k + k) = 2 ^ (2 * k) := by rw [show k + k = 2 * k by omega]
      rw [← hL, e1]
      omega
    have none : (∀ x : Int, a * x * x + b * x + c ≠ 0) → R (.list []) := fun hn => h [] ⟨List.Pairwise.nil, Nat.zero_le _, fun x => ⟨(fun m => nomatch m), fun e => absurd e (hn x)⟩⟩
    unfold rd_roots_for
    walk_at "dd"
    refine ⟨mulOk bb bb (by omega), mulOk (x := 4) (n := 3) (by decide) ab (by omega), mulOk b4 cb (by omega), ?_⟩
    rw [hL]
    refine then_intro ?_
    walk_at "dd"
    refine ⟨fun z => none fun x e => ?_, fun z => ?_⟩
    · have := (quad_iff (b := b) (c := c) ha).mp e
      have := sqI_nonneg (2 * a * x + b)
      omega
    · refine then_intro ?_
      walk_at "dd"
      refine ⟨⟨2 * k + 5, by omega, lb⟩, fun z2 => absurd z2 z, fun l0 r r0 r1 r2 => ?_⟩
      have rb : r.natAbs < 2 ^ (k + 3) := by
        rcases Nat.lt_or_ge r.natAbs (2 ^ (k + 3)) with z | z
        · exact z
        · have h1 := Nat.mul_le_mul z z
          rw [← Nat.pow_add] at h1
          have e1 : (r * r).natAbs = r.natAbs * r.natAbs := Int.natAbs_mul ..
          have e2 : 2 ^ (2 * k + 5) ≤ 2 ^ (k + 3 + (k + 3)) := Nat.pow_le_pow_right (by decide) (by omega)
          have := sqI_nonneg r
          omega
      have b2 := bits_mul (x := 2) (n := 2) (by decide) ab
      show Then _ _ _
      refine then_intro ?_
      walk_at "dd"
      refine ⟨mulOk rb rb (by omega), fun e => ?_, fun e => none fun x hx => ?_⟩
      · refine then_intro ?_
        walk_at "dd"
        have e2 : [PyData.int (-b + r), PyData.int (-b - r)] = [-b + r, -b - r].map .int := rfl
        rw [e2]
        refine lc_map (f := PyData.int) (k := PyData.int) (p := fun x => if x % (2 * a) = 0 then some (x / (2 * a)) else Option.none) (fun z => nomatch z) (fun x hx P hP => ?_) ?_
        · have xb : x.natAbs < 2 ^ (k + k + 4) := by
            have e3 : 2 ^ (k + k + 4) = 2 ^ (k + k) * 16 := Nat.pow_add 2 (k + k) 4
            have e4 : 2 ^ (k + 3) = 2 ^ k * 8 := Nat.pow_add 2 k 3
            have e5 : 2 ^ k ≤ 2 ^ (k + k) := Nat.pow_le_pow_right (by decide) (by omega)
            simp only [List.mem_cons, List.not_mem_nil, or_false] at hx
            omega
          walk_at "dd"
          refine ⟨mulOk (x := 2) (n := 2) (by decide) ab (by omega), by omega, ?_⟩
          rw [fmod_pos _ (by omega)]
          refine ⟨fun z => ⟨mulOk (x := 2) (n := 2) (by decide) ab (by omega), divOk (by omega) b2 (by omega), ?_⟩, fun z => ?_⟩
          · rw [if_pos z] at hP
            rw [fdiv_pos _ (by omega)]
            exact hP
          · rw [if_neg z] at hP
            exact hP
        · refine ⟨_, rfl, ?_, fun ms pw mem len => h ms ⟨pw, ?_, fun x => ?_⟩⟩
          · have := List.length_filterMap_le (fun x => if x % (2 * a) = 0 then some (x / (2 * a)) else Option.none) [-b + r, -b - r]
            rw [show [-b + r, -b - r].length = 2 from rfl] at this
            omega
          · have := List.length_filterMap_le (fun x => if x % (2 * a) = 0 then some (x / (2 * a)) else Option.none) [-b + r, -b - r]
            rw [show [-b + r, -b - r].length = 2 from rfl] at this
            omega
          · rw [mem, List.mem_filterMap, quad_iff ha, hL, ← e]
            constructor
            · rintro ⟨w, hw, hx⟩
              by_cases z : w % (2 * a) = 0
              · rw [if_pos z] at hx
                cases hx
                have := Int.mul_ediv_add_emod w (2 * a)
                rw [z, Int.add_zero] at this
                rw [this]
                simp only [List.mem_cons, List.not_mem_nil, or_false] at hw
                rcases hw with rfl | rfl
                · rw [show -b + r + b = r by omega]
                · rw [show -b - r + b = -r by omega]; exact Int.neg_mul_neg ..
              · rw [if_neg z] at hx; cases hx
            · intro hx
              have hd : (2 * a * x) % (2 * a) = 0 := Int.mul_emod_right _ _
              have hq : (2 * a * x) / (2 * a) = x := Int.mul_ediv_cancel_left _ (by omega)
              rcases sq_eq hx with w | w
              · exact ⟨2 * a * x, by rw [show 2 * a * x = -b + r by omega]; simp, by rw [if_pos hd, hq]⟩
              · exact ⟨2 * a * x, by rw [show 2 * a * x = -b - r by omega]; simp, by rw [if_pos hd, hq]⟩
      · have := (quad_iff (b := b) (c := c) ha).mp hx
        rw [hL] at this
        exact not_sq r0 (by omega) r2 this
  · exact h.elim
local macro_rules | `(tactic| walk_at "d1") => `(tactic| try simp only [dSeq, dSkip, dPass, dRet, dRetN, dDrop, dCond, dAsg, gNm, gTp, dOwn, dOwnL, dPar, dAug, dApp, dExt, dFrz, dFor, dLc, dBreak, dCont, dVar, dC, dOp, dT, dIsi, dNeg, dNot, dTNot, dAnd, dOr, dTAnd, dTOr, dIf, dCh, dNil, dCons, dTup, dLst, dIxO, dB, dCall, dCallW, dItems, dRng1, dRng2, dYes, fnE, startE, startW, startS, dLenO, dLenS, dIxS, dSl, dPt, dNo, wipeE, addD_int, addD_str, addD_tup, addD_lst, subD_int, mulD_int, mulD_tup, mulD_lst, fdivD_int, modD_int, powD_int, shlD_int, shrD_int, andD_int, ltD_int, leD_int, gtD_int, geD_int, eqD_ap, neD_ap, isD_ap, isNotD_ap, isNon_none, isNon_int, isNon_bool, isNon_str, isNon_tup, isNon_lst, isInt_none, isInt_int, isInt_bool, isInt_str, isInt_tup, isInt_lst, isBool_none, isBool_int, isBool_bool, isBool_str, isBool_tup, isBool_lst, isStr_none, isStr_int, isStr_bool, isStr_str, isStr_tup, isStr_lst, isTup_none, isTup_int, isTup_bool, isTup_str, isTup_tup, isTup_lst, isLst_lst, Cnd_true, Cnd_false, Cnd_not, Cnd_dec, asB_bool, forall_const, true_implies, false_implies, implies_true, decide_true, decide_false, Classical.not_not, negD_int, notD_bool, onVal_val, onOwn_own, onDic_dic, onScr_scr, onWv_wv, onInt_int, onTup_tup, onLst_lst, onItems_lst, onItems_tup, frz1_own, frz1_val, frz1_un, ixD_lst, ixD_tup, ixL_int, optD_some, optI_some, absD_int, intD_int, intD_bool, lenD_lst, lenD_tup, lenD_str, tupleD_lst, tupleD_tup, listD_lst, listD_tup, min2D_int, max2D_int, sumD_ints, allD_bls, anyD_bls, slD_lst, slD_tup, slD_str, gNl_nil, gCs_cons, par2_two, seq1_lst, seq1_tup, rng1D_int, rng2D_int, gt_z, gt_s, sp_next_int, set_z, set_s, List.map_cons, List.map_nil, List.length_cons, List.length_nil, List.cons_append, List.nil_append, List.replicate, Nat.reduceAdd, Nat.reduceSub, Nat.zero_add, shaped_int, shaped_bool, shaped_none, shaped_listI, shaped_tupI, shaped_nilL, shaped_nilT, eqv_int, eqv_bool, eqv_str, eqv_none, eqv_list_nil, List.isEmpty_nil, List.isEmpty_cons, Bool.true_eq_false, Bool.false_eq_true, decide_eq_true_eq, and_self, true_and, and_true, not_dec, Bool.not_eq_true', decide_eq_false_iff_not, atI_0, atI_1, atI_2, ite_true, ite_false, if_true, if_false, reduceIte, Bool.not_true, Bool.not_false, not_true_eq_false, not_false_eq_true, List.set_cons_zero, List.set_cons_succ, dPar3, dRev, par3_three, sortedD_ints, revD_tup, two_nat, one_nat, three_nat, dCh3, dOwnC, dPutPar, putPar_two, dZip2, zip2D_lst, zip2D_tup, dPut, isBD_bl, isNotBD_bl, dNewO, dPutO, dSortedO, putKD_int, dPar3O, dParO2, par3O_two, parO2_one, minLD_lst, dKeysW, rdPairs_nil, rdPairs_cons, onPair_ii, revD_lst, spx_roots_for, spx_size_of_two])
local macro_rules | `(tactic| walk_at "dd") => `(tactic| (walk_at "d1"; repeat (with_reducible (refine then_intro ?_); walk_at "d1")))
def rd_tells_b1 : DTS :=
  (dExt 6 (dLc true (dItems (dCall sp_roots_for (dCons (dVar 2) (dCons (dOp mulD (dVar 3) (dVar 8)) (dCons (dOp subD (dOp mulD (dOp mulD (dVar 4) (dVar 8)) (dVar 8)) (dVar 1)) dNil))))) (gNm 9) dYes (dTup (dCons (dVar 9) (dCons (dVar 8) dNil))) [9]))
def rd_tells_b2 : DTS :=
  (dSeq (dFor (dItems (dIf (dT (dOp gtD (dVar 7) (dC (.int 0)))) (dTup (dCons (dVar 7) (dCons (dNeg (dVar 7)) dNil))) (dTup (dCons (dC (.int 0)) dNil)))) (gNm 8) rd_tells_b1) (dAug 7 (fun i j => i + j) (dC (.int 1))))
def rd_tells : DTS :=
  (dSeq (dAsg (dVar 0) (gTp 3 (gCs (gNm 2) (gCs (gNm 3) (gCs (gNm 4) gNl))))) (dSeq (dAsg (dNeg (dCall sp_size_of_two (dCons (dVar 0) dNil))) (gNm 5)) (dSeq (dOwn 6 dNil) (dSeq (dAsg (dC (.int 0)) (gNm 7)) (dSeq (dWhile (dT (dOp leD (dOp mulD (dOp mulD (dVar 5) (dVar 7)) (dVar 7)) (dOp mulD (dOp mulD (dC (.int 4)) (dVar 2)) (dVar 1)))) rd_tells_b2) (dFrz 6 (dRet (dB tupleD (dCons (dB sortedTD (dCons (dVar 6) dNil)) dNil)))))))))
def Sols (f : Form) (n : Int) (ms : List (List Int)) : Prop := (∀ t, t ∈ ms ↔ ∃ x y : Int, t = [x, y] ∧ valF f x y = n) ∧ ms.Nodup ∧ ms.Pairwise (fun x y => lexI y x = false)
theorem Sols.uniq {f : Form} {n : Int} {m1 m2 : List (List Int)} (h1 : Sols f n m1) (h2 : Sols f n m2) : m1 = m2 := by
  refine lex_unique (d := 2) ?_ (fun x hx => ?_) h1.2.2 h2.2.2
  · exact (List.perm_ext_iff_of_nodup h1.2.1 h2.2.1).mpr fun t => by rw [h1.1, h2.1]
  · obtain ⟨x, y, rfl, _⟩ := (h1.1 _).mp hx
    rfl
def sp_tells : Lay.Spec := fun ds R => match ds with
  | [.tuple [.int a, .int b, .int c], .int n] => (0 < a ∧ disc (a, b, c) < 0 ∧ 0 < n ∧ n ≤ 100 ∧ a ≤ 200 ∧ b.natAbs ≤ 200 ∧ c.natAbs ≤ 1000) ∧ ∀ ms, Sols (a, b, c) n ms → ms.length ≤ 1000000 → R (.tuple (ms.map tupD))
  | _ => False
theorem spx_tells {a b c n : Int} {R : D → Prop} : sp_tells [.tuple [.int a, .int b, .int c], .int n] R = ((0 < a ∧ disc (a, b, c) < 0 ∧ 0 < n ∧ n ≤ 100 ∧ a ≤ 200 ∧ b.natAbs ≤ 200 ∧ c.natAbs ≤ 1000) ∧ ∀ ms, Sols (a, b, c) n ms → ms.length ≤ 1000000 → R (.tuple (ms.map tupD))) := rfl
/-- what is found up to y -/
structure Upto (f : Form) (n : Int) (y : Int) (S : Int → Int → Prop) (L : List (List Int)) (m : Nat) : Prop where
  mem : ∀ t, t ∈ L ↔ ∃ x s : Int, t = [x, s] ∧ valF f x s = n ∧ ((s.natAbs : Int) < y ∨ S x s)
  nd : L.Nodup
  len : L.length ≤ m
theorem far_y {f : Form} {n y x s : Int} (h0 : 0 < f.1) (hd : disc f < 0) (hy : 0 ≤ y) (hs : valF f x s = n) (h : 4 * f.1 * n < -disc f * y * y) : (s.natAbs : Int) < y := by
  have e := val_four f x s
  rw [hs] at e
  have h1 := sqI_nonneg (2 * f.1 * x + f.2.1 * s)
  rcases (show (s.natAbs : Int) < y ∨ y ≤ (s.natAbs : Int) by omega) with z | z
  · exact z
  · have h2 := Int.mul_le_mul z z hy (by omega)
    have h3 : (s.natAbs : Int) * (s.natAbs : Int) = s * s := by
      rcases Int.natAbs_eq s with e | e <;> rw [e] <;> grind
    have h4 := Int.mul_le_mul_of_nonneg_left (show y * y ≤ s * s by omega) (show 0 ≤ -disc f by omega)
    have h5 : -disc f * y * y = -disc f * (y * y) := Int.mul_assoc ..
    have h6 : -disc f * (s * s) = -(disc f * (s * s)) := Int.neg_mul ..
    omega
theorem val_quad (f : Form) (n x s : Int) : f.1 * x * x + f.2.1 * s * x + (f.2.2 * s * s - n) = valF f x s - n := by unfold valF; grind
theorem ok_tells : ∀ ds R, sp_tells ds R → rd_tells (fnE R) (startE 10 ds) := by
  intro ds R h
  unfold sp_tells at h
  split at h
  · rename_i a b c n
    obtain ⟨⟨a0, hd, n0, nb, ab, bb, cb⟩, h⟩ := h
    have hsz : 5000000 < sizeLine := by decide
    have db : -disc (a, b, c) ≤ 4 * 200 * 1000 := by
      have h1 := sqI_nonneg b
      have h2 : a * c ≤ 200 * 1000 := by
        have h3 : (a * c).natAbs = a.natAbs * c.natAbs := Int.natAbs_mul ..
        have h4 := Nat.mul_le_mul (show a.natAbs ≤ 200 by omega) cb
        omega
      have : disc (a, b, c) = b * b - 4 * (a * c) := by show b * b - 4 * a * c = _; rw [Int.mul_assoc]
      omega
    generalize hD : -disc (a, b, c) = d at *
    have d0 : 0 < d := by omega
    unfold rd_tells
    walk_at "dd"
    refine ⟨⟨20, by decide, by show a.natAbs < _; omega, by show b.natAbs < _; omega, by show c.natAbs < _; omega⟩, ?_⟩
    walk_at "dd"
    rw [hD]
    refine while_by (fun (s : List (List Int) × Int × Sl × Sl) => [.val (.tuple [.int a, .int b, .int c]), .val (.int n), .val (.int a), .val (.int b), .val (.int c), .val (.int d), .own (s.1.map tupD), .val (.int s.2.1), s.2.2.1, s.2.2.2]) (fun s => 0 ≤ s.2.1 ∧ s.2.1 ≤ 80001 ∧ Upto (a, b, c) n s.2.1 (fun _ _ => False) s.1 (4 * s.2.1.toNat)) (fun s => 80001 - s.2.1.toNat) ([], 0, .un, .un) rfl ⟨Int.le_refl 0, by decide, ?_⟩ ?_
    · refine ⟨fun t => ⟨(fun m => nomatch m), ?_⟩, List.nodup_nil, Nat.zero_le _⟩
      rintro ⟨x, s, _, _, h | h⟩
      · have h' : (s.natAbs : Int) < 0 := h
        omega
      · exact h.elim
    rintro ⟨L, y, u8, u9⟩ ⟨y0, yb, hL⟩ bk
    simp only at y0 yb hL
    have m1 : CMulW d y := mulOk (n := 20) (m := 20) (by omega) (by omega) (by decide)
    have m2 : CMulW (d * y) y := mulOk (n := 40) (m := 20) (bits_mul (n := 20) (m := 20) (by omega) (by omega)) (by omega) (by decide)
    have m3 : CMulW 4 a := mulOk (n := 3) (m := 20) (by decide) (by omega) (by decide)
    have m4 : CMulW (4 * a) n := mulOk (n := 23) (m := 20) (by omega) (by omega) (by decide)
    walk_at "dd"
    refine ⟨m1, m2, m3, m4, fun z => ?_, fun z => ?_⟩
    · have y8 : y ≤ 80000 := by
        rcases (show y ≤ 80000 ∨ 80001 ≤ y by omega) with w | w
        · exact w
        · have h1 := Int.mul_le_mul_of_nonneg_left w (show 0 ≤ d * y by exact Int.mul_nonneg (by omega) y0)
          have h2 := Int.mul_le_mul_of_nonneg_left w (show 0 ≤ d by omega)
          have h3 := Int.mul_le_mul_of_nonneg_left nb (show 0 ≤ 4 * a by omega)
          omega
      have loop : ∀ (sg : List Int) (K : DEnds), sg.Nodup → sg.length ≤ 2 → (∀ s, s ∈ sg ↔ (s.natAbs : Int) = y) →
          (∀ L' v8 v9, Upto (a, b, c) n (y + 1) (fun _ _ => False) L' (4 * (y + 1).toNat) → K.nx [.val (.tuple [.int a, .int b, .int c]), .val (.int n), .val (.int a), .val (.int b), .val (.int c), .val (.int d), .own (L'.map tupD), .val (.int y), v8, v9]) →
          ForW (gNm 8) rd_tells_b1 (sg.map PyData.int) K [.val (.tuple [.int a, .int b, .int c]), .val (.int n), .val (.int a), .val (.int b), .val (.int c), .val (.int d), .own (L.map tupD), .val (.int y), u8, u9] := fun sg K nd ln hm hK => by
        refine for_by (fun (s : List (List Int) × Sl × Sl) => [.val (.tuple [.int a, .int b, .int c]), .val (.int n), .val (.int a), .val (.int b), .val (.int c), .val (.int d), .own (s.1.map tupD), .val (.int y), s.2.1, s.2.2]) (fun i s => Upto (a, b, c) n y (fun _ z => z ∈ sg.take i) s.1 (4 * y.toNat + 2 * i)) (L, u8, u9) rfl ?_ ?_ ?_
        · refine ⟨fun t => ?_, hL.nd, hL.len⟩
          rw [hL.mem, List.take_zero]
          simp
        · rintro i e he ⟨L1, v8, v9⟩ h1 bk1
          simp only at h1
          rw [List.getElem?_map] at he
          obtain ⟨sn, hs, rfl⟩ := Option.map_eq_some_iff.mp he
          have sy := (hm sn).mp (List.mem_of_getElem? hs)
          have i2 : i < 2 := by have := (List.getElem?_eq_some_iff.mp hs).1; omega
          have sb : sn.natAbs < 2 ^ 20 := by omega
          have q1 : (b * sn).natAbs < 2 ^ 40 := bits_mul (n := 20) (m := 20) (by omega) sb
          have q2 : (c * sn).natAbs < 2 ^ 40 := bits_mul (n := 20) (m := 20) (by omega) sb
          have q3 : (c * sn * sn).natAbs < 2 ^ 60 := bits_mul (n := 40) (m := 20) q2 sb
          unfold rd_tells_b1
          walk_at "dd"
          refine ⟨mulOk (n := 20) (m := 20) (by omega) sb (by decide), mulOk (n := 20) (m := 20) (by omega) sb (by decide), mulOk q2 sb (by decide), ⟨a0, 61, by decide, by omega, by omega, by omega⟩, fun xs hx => ?_⟩
          refine lc_map (f := PyData.int) (k := tupD) (p := fun x => some [x, sn]) (fun z => nomatch z) (fun x hx P hP => ?_) ?_
          · walk_at "dd"
            exact hP
          · rw [List.filterMap_eq_map']
            walk_at "dd"
            have len1 := h1.len
            have len2 := hx.2.1
            refine ⟨by rw [List.length_map, List.length_map, List.length_map]; omega, (L1 ++ xs.map fun x => [x, sn], _, _), by rw [List.map_append], ?_⟩
            have hxm : ∀ x, x ∈ xs ↔ valF (a, b, c) x sn = n := fun x => by
              rw [hx.2.2]
              have : a * x * x + b * sn * x + (c * sn * sn - n) = valF (a, b, c) x sn - n := val_quad (a, b, c) n x sn
              constructor
              · intro z
                have z' : a * x * x + b * sn * x + (c * sn * sn - n) = 0 := z
                omega
              · intro z
                show a * x * x + b * sn * x + (c * sn * sn - n) = 0
                omega
            refine ⟨fun t => ?_, ?_, ?_⟩
            · rw [List.mem_append, h1.mem, List.mem_map, take_snoc hs]
              constructor
              · rintro (⟨x, s, rfl, hv, hh⟩ | ⟨x, hx, rfl⟩)
                · exact ⟨x, s, rfl, hv, hh.imp id fun m => List.mem_append.mpr (.inl m)⟩
                · exact ⟨x, sn, rfl, (hxm x).mp hx, .inr (List.mem_append.mpr (.inr List.mem_cons_self))⟩
              · rintro ⟨x, s, rfl, hv, hh⟩
                rcases hh with hh | hh
                · exact .inl ⟨x, s, rfl, hv, .inl hh⟩
                · rcases List.mem_append.mp hh with m | m
                  · exact .inl ⟨x, s, rfl, hv, .inr m⟩
                  · rw [List.mem_singleton.mp m] at hv ⊢
                    exact .inr ⟨x, (hxm x).mpr hv, rfl⟩
            · rw [List.nodup_append]
              refine ⟨h1.nd, ?_, fun t ht u hu e => ?_⟩
              · refine List.Pairwise.map _ (fun x y hxy e => ?_) (hx.1.imp fun h => Int.ne_of_lt h)
                simp only [List.cons.injEq, and_true] at e
                exact hxy e
              · subst e
                obtain ⟨x, s, rfl, _, hh⟩ := (h1.mem _).mp ht
                obtain ⟨x2, _, e⟩ := List.mem_map.mp hu
                simp only [List.cons.injEq, and_true] at e
                obtain ⟨_, rfl⟩ := e
                rcases hh with hh | hh
                · omega
                · obtain ⟨j, hj⟩ := List.getElem?_of_mem hh
                  have jl : j < i := by
                    have := (List.getElem?_eq_some_iff.mp hj).1
                    rw [List.length_take] at this
                    omega
                  rw [List.getElem?_take_of_lt jl] at hj
                  obtain ⟨l1, e1⟩ := List.getElem?_eq_some_iff.mp hj
                  obtain ⟨l2, e2⟩ := List.getElem?_eq_some_iff.mp hs
                  exact List.pairwise_iff_getElem.mp nd j i l1 l2 jl (by rw [e1, e2])
            · rw [List.length_append, List.length_map]
              omega
        · rintro ⟨L1, v8, v9⟩ h1
          simp only [List.length_map, List.take_length] at h1
          refine hK L1 v8 v9 ⟨fun t => ?_, h1.nd, ?_⟩
          · rw [h1.mem]
            constructor
            · rintro ⟨x, s, rfl, hv, hh⟩
              refine ⟨x, s, rfl, hv, .inl ?_⟩
              rcases hh with hh | hh
              · omega
              · have := (hm s).mp hh; omega
            · rintro ⟨x, s, rfl, hv, hh⟩
              refine ⟨x, s, rfl, hv, ?_⟩
              rcases hh with hh | hh
              · rcases (show (s.natAbs : Int) < y ∨ (s.natAbs : Int) = y by omega) with w | w
                · exact .inl w
                · exact .inr ((hm s).mpr w)
              · exact hh.elim
          · have := h1.len
            omega
      have step : ∀ L' v8 v9, Upto (a, b, c) n (y + 1) (fun _ _ => False) L' (4 * (y + 1).toNat) → ∃ a' : List (List Int) × Int × Sl × Sl,
          [Sl.val (.tuple [.int a, .int b, .int c]), .val (.int n), .val (.int a), .val (.int b), .val (.int c), .val (.int d), .own (L'.map tupD), .val (.int (y + 1)), v8, v9] = [.val (.tuple [.int a, .int b, .int c]), .val (.int n), .val (.int a), .val (.int b), .val (.int c), .val (.int d), .own (a'.1.map tupD), .val (.int a'.2.1), a'.2.2.1, a'.2.2.2] ∧
            (0 ≤ a'.2.1 ∧ a'.2.1 ≤ 80001 ∧ Upto (a, b, c) n a'.2.1 (fun _ _ => False) a'.1 (4 * a'.2.1.toNat)) ∧ 80001 - a'.2.1.toNat < 80001 - y.toNat := fun L' v8 v9 hU => by
        refine ⟨(L', y + 1, v8, v9), rfl, ⟨?_, ?_, hU⟩, ?_⟩
        · show 0 ≤ y + 1; omega
        · show y + 1 ≤ 80001; omega
        · show 80001 - (y + 1).toNat < _; omega
      unfold rd_tells_b2
      walk_at "dd"
      refine ⟨fun w => ?_, fun w => ?_⟩
      · refine loop [y, -y] _ ?_ (Nat.le_refl _) (fun s => ?_) fun L' v8 v9 hU => ?_
        · rw [List.nodup_cons]
          exact ⟨fun m => by have := List.mem_singleton.mp m; omega, List.nodup_cons.mpr ⟨List.not_mem_nil, List.nodup_nil⟩⟩
        · simp only [List.mem_cons, List.not_mem_nil, or_false]
          omega
        · refine then_intro ?_
          walk_at "dd"
          exact step L' v8 v9 hU
      · refine loop [0] _ (List.nodup_cons.mpr ⟨List.not_mem_nil, List.nodup_nil⟩) (by decide) (fun s => ?_) fun L' v8 v9 hU => ?_
        · simp only [List.mem_cons, List.not_mem_nil, or_false]
          omega
        · refine then_intro ?_
          walk_at "dd"
          exact step L' v8 v9 hU
    · refine then_intro ?_
      walk_at "dd"
      have hl := hL.len
      refine ⟨L, 2, rfl, by decide, fun t ht => ?_, fun ms pm so => ?_⟩
      · obtain ⟨x, s, rfl, _⟩ := (hL.mem t).mp ht
        rfl
      · refine h ms ⟨fun t => ?_, pm.nodup_iff.mpr hL.nd, so⟩ (by rw [pm.length_eq]; omega)
        rw [pm.mem_iff, hL.mem]
        constructor
        · rintro ⟨x, s, rfl, hv, _⟩
          exact ⟨x, s, rfl, hv⟩
        · rintro ⟨x, s, rfl, hv⟩
          refine ⟨x, s, rfl, hv, .inl ?_⟩
          refine far_y (f := (a, b, c)) a0 hd y0 hv ?_
          rw [hD]
          show 4 * a * n < _
          omega
  · exact h.elim
local macro_rules | `(tactic| walk_at "d1") => `(tactic| try simp only [dSeq, dSkip, dPass, dRet, dRetN, dDrop, dCond, dAsg, gNm, gTp, dOwn, dOwnL, dPar, dAug, dApp, dExt, dFrz, dFor, dLc, dBreak, dCont, dVar, dC, dOp, dT, dIsi, dNeg, dNot, dTNot, dAnd, dOr, dTAnd, dTOr, dIf, dCh, dNil, dCons, dTup, dLst, dIxO, dB, dCall, dCallW, dItems, dRng1, dRng2, dYes, fnE, startE, startW, startS, dLenO, dLenS, dIxS, dSl, dPt, dNo, wipeE, addD_int, addD_str, addD_tup, addD_lst, subD_int, mulD_int, mulD_tup, mulD_lst, fdivD_int, modD_int, powD_int, shlD_int, shrD_int, andD_int, ltD_int, leD_int, gtD_int, geD_int, eqD_ap, neD_ap, isD_ap, isNotD_ap, isNon_none, isNon_int, isNon_bool, isNon_str, isNon_tup, isNon_lst, isInt_none, isInt_int, isInt_bool, isInt_str, isInt_tup, isInt_lst, isBool_none, isBool_int, isBool_bool, isBool_str, isBool_tup, isBool_lst, isStr_none, isStr_int, isStr_bool, isStr_str, isStr_tup, isStr_lst, isTup_none, isTup_int, isTup_bool, isTup_str, isTup_tup, isTup_lst, isLst_lst, Cnd_true, Cnd_false, Cnd_not, Cnd_dec, asB_bool, forall_const, true_implies, false_implies, implies_true, decide_true, decide_false, Classical.not_not, negD_int, notD_bool, onVal_val, onOwn_own, onDic_dic, onScr_scr, onWv_wv, onInt_int, onTup_tup, onLst_lst, onItems_lst, onItems_tup, frz1_own, frz1_val, frz1_un, ixD_lst, ixD_tup, ixL_int, optD_some, optI_some, absD_int, intD_int, intD_bool, lenD_lst, lenD_tup, lenD_str, tupleD_lst, tupleD_tup, listD_lst, listD_tup, min2D_int, max2D_int, sumD_ints, allD_bls, anyD_bls, slD_lst, slD_tup, slD_str, gNl_nil, gCs_cons, par2_two, seq1_lst, seq1_tup, rng1D_int, rng2D_int, gt_z, gt_s, sp_next_int, set_z, set_s, List.map_cons, List.map_nil, List.length_cons, List.length_nil, List.cons_append, List.nil_append, List.replicate, Nat.reduceAdd, Nat.reduceSub, Nat.zero_add, shaped_int, shaped_bool, shaped_none, shaped_listI, shaped_tupI, shaped_nilL, shaped_nilT, eqv_int, eqv_bool, eqv_str, eqv_none, eqv_list_nil, List.isEmpty_nil, List.isEmpty_cons, Bool.true_eq_false, Bool.false_eq_true, decide_eq_true_eq, and_self, true_and, and_true, not_dec, Bool.not_eq_true', decide_eq_false_iff_not, atI_0, atI_1, atI_2, ite_true, ite_false, if_true, if_false, reduceIte, Bool.not_true, Bool.not_false, not_true_eq_false, not_false_eq_true, List.set_cons_zero, List.set_cons_succ, dPar3, dRev, par3_three, sortedD_ints, revD_tup, two_nat, one_nat, three_nat, dCh3, dOwnC, dPutPar, putPar_two, dZip2, zip2D_lst, zip2D_tup, dPut, isBD_bl, isNotBD_bl, dNewO, dPutO, dSortedO, putKD_int, dPar3O, dParO2, par3O_two, parO2_one, minLD_lst, dKeysW, rdPairs_nil, rdPairs_cons, onPair_ii, revD_lst, spx_roots_for, spx_size_of_two, spx_tells, spx_law_below_nothing])
local macro_rules | `(tactic| walk_at "dd") => `(tactic| (walk_at "d1"; repeat (with_reducible (refine then_intro ?_); walk_at "d1")))
def rd_law_tells_b1 : DTS :=
  (dCond (dT (dOp eqD (dOp addD (dOp addD (dOp mulD (dOp mulD (dVar 2) (dOp ixD (dVar 9) (dC (.int 0)))) (dOp ixD (dVar 9) (dC (.int 0)))) (dOp mulD (dOp mulD (dVar 3) (dOp ixD (dVar 9) (dC (.int 0)))) (dOp ixD (dVar 9) (dC (.int 1))))) (dOp mulD (dOp mulD (dVar 4) (dOp ixD (dVar 9) (dC (.int 1)))) (dOp ixD (dVar 9) (dC (.int 1))))) (dVar 1))) (dApp 6 (dVar 9)) dSkip)
def rd_law_tells_b2 : DTS :=
  (dSeq (dFor (dKeysW [(dCons (dVar 8) (dCons (dVar 7) dNil)), (dCons (dVar 8) (dCons (dNeg (dVar 7)) dNil)), (dCons (dNeg (dVar 8)) (dCons (dVar 7) dNil)), (dCons (dNeg (dVar 8)) (dCons (dNeg (dVar 7)) dNil))]) (gNm 9) rd_law_tells_b1) (dAug 8 (fun i j => i + j) (dC (.int 1))))
def rd_law_tells_b3 : DTS :=
  (dSeq (dAsg (dC (.int 0)) (gNm 8)) (dSeq (dWhile (dT (dOp leD (dOp mulD (dOp mulD (dOp mulD (dC (.int 2)) (dVar 2)) (dVar 8)) (dOp mulD (dOp mulD (dC (.int 2)) (dVar 2)) (dVar 8))) (dOp addD (dOp addD (dOp mulD (dOp mulD (dC (.int 16)) (dVar 2)) (dVar 1)) (dOp mulD (dOp mulD (dOp mulD (dOp mulD (dC (.int 4)) (dVar 3)) (dVar 3)) (dVar 7)) (dVar 7))) (dC (.int 1))))) rd_law_tells_b2) (dAug 7 (fun i j => i + j) (dC (.int 1)))))
def rd_law_tells : DTS :=
  (dSeq (dAsg (dVar 0) (gTp 3 (gCs (gNm 2) (gCs (gNm 3) (gCs (gNm 4) gNl))))) (dSeq (dAsg (dNeg (dCall sp_law_below_nothing (dCons (dVar 0) dNil))) (gNm 5)) (dSeq (dOwn 6 dNil) (dSeq (dAsg (dC (.int 0)) (gNm 7)) (dSeq (dWhile (dT (dOp leD (dOp mulD (dOp mulD (dVar 5) (dVar 7)) (dVar 7)) (dOp mulD (dOp mulD (dC (.int 4)) (dVar 2)) (dVar 1)))) rd_law_tells_b3) (dFrz 6 (dRet (dB tupleD (dCons (dB sortedTD (dCons (dVar 6) dNil)) dNil)))))))))
def sp_law_tells : Lay.Spec := fun ds R => match ds with
  | [.tuple [.int a, .int b, .int c], .int n] => (0 < a ∧ disc (a, b, c) < 0 ∧ 0 < n ∧ n ≤ 60 ∧ a ≤ 20 ∧ b.natAbs ≤ 20 ∧ c.natAbs ≤ 1000) ∧ ∀ ms, Sols (a, b, c) n ms → R (.tuple (ms.map tupD))
  | _ => False
theorem spx_law_tells {a b c n : Int} {R : D → Prop} : sp_law_tells [.tuple [.int a, .int b, .int c], .int n] R = ((0 < a ∧ disc (a, b, c) < 0 ∧ 0 < n ∧ n ≤ 60 ∧ a ≤ 20 ∧ b.natAbs ≤ 20 ∧ c.natAbs ≤ 1000) ∧ ∀ ms, Sols (a, b, c) n ms → R (.tuple (ms.map tupD))) := rfl
theorem firsts_spec (ks : List (Int × Int)) : (firsts ks).Nodup ∧ ∀ k, k ∈ firsts ks ↔ k ∈ ks := by
  have : ∀ (ks acc : List (Int × Int)), acc.Nodup → (ks.foldl (fun acc k => if k ∈ acc then acc else acc ++ [k]) acc).Nodup ∧ ∀ k, k ∈ ks.foldl (fun acc k => if k ∈ acc then acc else acc ++ [k]) acc ↔ k ∈ acc ∨ k ∈ ks := by
    intro ks
    induction ks with
    | nil => intro acc h; exact ⟨h, fun k => by simp⟩
    | cons x ks ih =>
      intro acc h
      rw [List.foldl_cons]
      by_cases z : x ∈ acc
      · rw [if_pos z]
        obtain ⟨h1, h2⟩ := ih acc h
        refine ⟨h1, fun k => ?_⟩
        rw [h2, List.mem_cons]
        constructor
        · rintro (m | m)
          · exact .inl m
          · exact .inr (.inr m)
        · rintro (m | rfl | m)
          · exact .inl m
          · exact .inl z
          · exact .inr m
      · rw [if_neg z]
        obtain ⟨h1, h2⟩ := ih (acc ++ [x]) (by
          rw [List.nodup_append]
          refine ⟨h, List.nodup_cons.mpr ⟨List.not_mem_nil, List.nodup_nil⟩, fun a ha b hb e => ?_⟩
          rw [List.mem_singleton.mp hb] at e
          exact z (e ▸ ha))
        refine ⟨h1, fun k => ?_⟩
        rw [h2, List.mem_append, List.mem_singleton, List.mem_cons, or_assoc]
  obtain ⟨h1, h2⟩ := this ks [] List.nodup_nil
  exact ⟨h1, fun k => by unfold firsts; rw [h2]; simp⟩
def four (x y : Int) : List (Int × Int) := firsts [(x, y), (x, -y), (-x, y), (-x, -y)]
theorem four_len (x y : Int) : (four x y).length ≤ 4 := firsts_len _
theorem four_mem {x y : Int} (hx : 0 ≤ x) (hy : 0 ≤ y) (k : Int × Int) : k ∈ four x y ↔ (k.1.natAbs : Int) = x ∧ (k.2.natAbs : Int) = y := by
  unfold four
  rw [(firsts_spec _).2]
  obtain ⟨u, v⟩ := k
  simp only [List.mem_cons, Prod.mk.injEq, List.not_mem_nil, or_false]
  omega
theorem far_x {f : Form} {n x' s X y : Int} (h0 : 0 < f.1) (hd : disc f < 0) (n0 : 0 < n) (hX : 0 ≤ X) (hs : valF f x' s = n) (sy : (s.natAbs : Int) = y) (h : 16 * f.1 * n + 4 * f.2.1 * f.2.1 * y * y + 1 < 2 * f.1 * X * (2 * f.1 * X)) : (x'.natAbs : Int) < X := by
  have e := val_four f x' s
  rw [hs] at e
  have hss : y * y = s * s := by
    rw [← sy]
    rcases Int.natAbs_eq s with e | e <;> rw [e] <;> grind
  have h1 := Int.mul_nonpos_of_nonpos_of_nonneg (show disc f ≤ 0 by omega) (sqI_nonneg s)
  rcases (show (x'.natAbs : Int) < X ∨ X ≤ (x'.natAbs : Int) by omega) with z | z
  · exact z
  · have h2 := Int.mul_le_mul z z hX (by omega)
    have h3 : (x'.natAbs : Int) * (x'.natAbs : Int) = x' * x' := by
      rcases Int.natAbs_eq x' with e | e <;> rw [e] <;> grind
    have h4 := Int.mul_le_mul_of_nonneg_left (show X * X ≤ x' * x' by omega) (show 0 ≤ 4 * (f.1 * f.1) by have := sqI_nonneg f.1; omega)
    have h5 : 2 * f.1 * X * (2 * f.1 * X) = 4 * (f.1 * f.1) * (X * X) := by grind
    have h6 : 4 * f.2.1 * f.2.1 * y * y = 4 * (f.2.1 * f.2.1 * (s * s)) := by rw [← hss]; grind
    -- (2 a x')^2 is at most 2 (2 a x' + b s)^2 + 2 (b s)^2
    have h7 := sqI_nonneg (2 * f.1 * x' + 2 * (f.2.1 * s))
    have h8 : (2 * f.1 * x' + 2 * (f.2.1 * s)) * (2 * f.1 * x' + 2 * (f.2.1 * s)) = 2 * ((2 * f.1 * x' + f.2.1 * s) * (2 * f.1 * x' + f.2.1 * s)) + 2 * (f.2.1 * f.2.1 * (s * s)) - 4 * (f.1 * f.1) * (x' * x') := by grind
    have h9 := sqI_nonneg (f.2.1 * s)
    have h10 : f.2.1 * s * (f.2.1 * s) = f.2.1 * f.2.1 * (s * s) := by grind
    have h11 := Int.mul_pos h0 n0
    have h12 : 4 * f.1 * n = 4 * (f.1 * n) := Int.mul_assoc ..
    have h13 : 16 * f.1 * n = 16 * (f.1 * n) := Int.mul_assoc ..
    omega
theorem ok_law_tells : ∀ ds R, sp_law_tells ds R → rd_law_tells (fnE R) (startE 10 ds) := by
  intro ds R h
  unfold sp_law_tells at h
  split at h
  · rename_i a b c n
    obtain ⟨⟨a0, hd, n0, nb, ab, bb, cb⟩, h⟩ := h
    have hsz : 10000000 < sizeLine := by decide
    have db : -disc (a, b, c) ≤ 4 * 20 * 1000 := by
      have h1 := sqI_nonneg b
      have h2 : a * c ≤ 20 * 1000 := by
        have h3 : (a * c).natAbs = a.natAbs * c.natAbs := Int.natAbs_mul ..
        have h4 := Nat.mul_le_mul (show a.natAbs ≤ 20 by omega) cb
        omega
      have : disc (a, b, c) = b * b - 4 * (a * c) := by show b * b - 4 * a * c = _; rw [Int.mul_assoc]
      omega
    generalize hD : -disc (a, b, c) = d at *
    have d0 : 0 < d := by omega
    unfold rd_law_tells
    walk_at "dd"
    refine ⟨⟨20, by decide, by omega, by omega, by omega⟩, ?_⟩
    walk_at "dd"
    rw [hD]
    refine while_by (fun (s : List (List Int) × Int × Sl × Sl) => [.val (.tuple [.int a, .int b, .int c]), .val (.int n), .val (.int a), .val (.int b), .val (.int c), .val (.int d), .own (s.1.map tupD), .val (.int s.2.1), s.2.2.1, s.2.2.2]) (fun s => 0 ≤ s.2.1 ∧ s.2.1 ≤ 71 ∧ Upto (a, b, c) n s.2.1 (fun _ _ => False) s.1 (10000 * s.2.1.toNat)) (fun s => 71 - s.2.1.toNat) ([], 0, .un, .un) rfl ⟨Int.le_refl 0, by decide, ?_⟩ ?_
    · refine ⟨fun t => ⟨(fun m => nomatch m), ?_⟩, List.nodup_nil, Nat.zero_le _⟩
      rintro ⟨x, s, _, _, h | h⟩
      · have h' : (s.natAbs : Int) < 0 := h
        omega
      · exact h.elim
    rintro ⟨L, y, u8, u9⟩ ⟨y0, yb, hL⟩ bk
    simp only at y0 yb hL
    have m1 : CMulW d y := mulOk (n := 20) (m := 20) (by omega) (by omega) (by decide)
    have m2 : CMulW (d * y) y := mulOk (n := 40) (m := 20) (bits_mul (n := 20) (m := 20) (by omega) (by omega)) (by omega) (by decide)
    have m3 : CMulW 4 a := mulOk (n := 3) (m := 20) (by decide) (by omega) (by decide)
    have m4 : CMulW (4 * a) n := mulOk (n := 23) (m := 20) (by omega) (by omega) (by decide)
    walk_at "dd"
    refine ⟨m1, m2, m3, m4, fun z => ?_, fun z => ?_⟩
    · have y8 : y ≤ 70 := by
        rcases (show y ≤ 70 ∨ 71 ≤ y by omega) with w | w
        · exact w
        · have h1 := Int.mul_le_mul_of_nonneg_left w (show 0 ≤ d * y by exact Int.mul_nonneg (by omega) y0)
          have h2 := Int.mul_le_mul_of_nonneg_left w (show 0 ≤ d by omega)
          have h3 := Int.mul_le_mul_of_nonneg_left nb (show 0 ≤ 4 * a by omega)
          omega
      unfold rd_law_tells_b3
      walk_at "dd"
      refine while_by (fun (s : List (List Int) × Int × Sl) => [.val (.tuple [.int a, .int b, .int c]), .val (.int n), .val (.int a), .val (.int b), .val (.int c), .val (.int d), .own (s.1.map tupD), .val (.int y), .val (.int s.2.1), s.2.2]) (fun s => (0 : Int) ≤ s.2.1 ∧ s.2.1 ≤ 2001 ∧ Upto (a, b, c) n y (fun x t => (t.natAbs : Int) = y ∧ (x.natAbs : Int) < s.2.1) s.1 (10000 * y.toNat + 4 * s.2.1.toNat)) (fun s => 2001 - s.2.1.toNat) (L, 0, u9) rfl ⟨Int.le_refl 0, by show (0 : Int) ≤ 2001; decide, ?_⟩ ?_
      · refine ⟨fun t => ?_, hL.nd, hL.len⟩
        rw [hL.mem]
        constructor
        · rintro ⟨x, s, rfl, hv, hh⟩
          exact ⟨x, s, rfl, hv, hh.imp id fun q => q.elim⟩
        · rintro ⟨x, s, rfl, hv, hh⟩
          refine ⟨x, s, rfl, hv, hh.imp id fun q => ?_⟩
          have : (x.natAbs : Int) < 0 := q.2
          omega
      rintro ⟨L1, x, v9⟩ ⟨x0, xb, h1⟩ bk1
      simp only at x0 xb h1
      have xx : x.natAbs < 2 ^ 30 := by omega
      have yy : y.natAbs < 2 ^ 20 := by omega
      have aa : a.natAbs < 2 ^ 20 := by omega
      have b_ : b.natAbs < 2 ^ 20 := by omega
      have c_ : c.natAbs < 2 ^ 20 := by omega
      have q1 : (2 * a).natAbs < 2 ^ 21 := by omega
      have q2 : (2 * a * x).natAbs < 2 ^ 51 := bits_mul (n := 21) (m := 30) q1 xx
      have q3 : (16 * a).natAbs < 2 ^ 25 := by omega
      have q4 : (4 * b).natAbs < 2 ^ 25 := by omega
      have q5 : (4 * b * b).natAbs < 2 ^ 45 := bits_mul (n := 25) (m := 20) q4 b_
      have q6 : (4 * b * b * y).natAbs < 2 ^ 65 := bits_mul (n := 45) (m := 20) q5 yy
      walk_at "dd"
      refine ⟨mulOk (x := 2) (n := 20) (m := 20) (by decide) aa (by decide), mulOk q1 xx (by decide), mulOk (x := 2) (n := 20) (m := 20) (by decide) aa (by decide), mulOk q1 xx (by decide), mulOk q2 q2 (by decide), mulOk (x := 16) (n := 20) (m := 20) (by decide) aa (by decide), mulOk (n := 25) (m := 20) q3 (by omega) (by decide), mulOk (x := 4) (n := 20) (m := 20) (by decide) b_ (by decide), mulOk q4 b_ (by decide), mulOk q5 yy (by decide), mulOk q6 yy (by decide), fun w => ?_, fun w => ?_⟩
      · have x8 : x ≤ 2000 := by
          rcases (show x ≤ 2000 ∨ 2001 ≤ x by omega) with w2 | w2
          · exact w2
          · have g1 : 4002 ≤ 2 * a * x := by
              have := Int.mul_le_mul (show 2 ≤ 2 * a by omega) w2 (by decide) (by omega)
              omega
            have g2 := Int.mul_le_mul g1 g1 (by decide) (by omega)
            have g3 : 16 * a * n ≤ 16 * 20 * 60 := Int.mul_le_mul (show 16 * a ≤ 16 * 20 by omega) nb (by omega) (by omega)
            have g4 : b * b ≤ 20 * 20 := abs_sq_le (by omega) (by omega)
            have g5 : y * y ≤ 71 * 71 := Int.mul_le_mul yb yb y0 (by omega)
            have g6 : b * b * (y * y) ≤ 20 * 20 * (71 * 71) := Int.mul_le_mul g4 g5 (sqI_nonneg y) (by decide)
            have g7 : 4 * b * b * y * y = 4 * (b * b * (y * y)) := by grind
            omega
        unfold rd_law_tells_b2
        walk_at "dd"
        have e4 : firsts [(x, y), (x, -y), (-x, y), (-x, -y)] = four x y := rfl
        rw [e4]
        obtain ⟨nd4, _⟩ := firsts_spec [(x, y), (x, -y), (-x, y), (-x, -y)]
        rw [e4] at nd4
        have len4 := four_len x y
        refine for_by (fun (s : List (List Int) × Sl) => [.val (.tuple [.int a, .int b, .int c]), .val (.int n), .val (.int a), .val (.int b), .val (.int c), .val (.int d), .own (s.1.map tupD), .val (.int y), .val (.int x), s.2]) (fun i s => Upto (a, b, c) n y (fun u v => ((v.natAbs : Int) = y ∧ (u.natAbs : Int) < x) ∨ (u, v) ∈ (four x y).take i) s.1 (10000 * y.toNat + 4 * x.toNat + i)) (L1, v9) rfl ?_ ?_ ?_
        · refine ⟨fun t => ?_, h1.nd, h1.len⟩
          rw [h1.mem, List.take_zero]
          simp
        · rintro i e he ⟨L2, w9⟩ h2 bk2
          simp only at h2
          rw [List.getElem?_map] at he
          obtain ⟨k, hk, rfl⟩ := Option.map_eq_some_iff.mp he
          obtain ⟨u, v⟩ := k
          obtain ⟨ku, kv⟩ := (four_mem x0 y0 (u, v)).mp (List.mem_of_getElem? hk)
          simp only at ku kv
          have i4 : i < 4 := by have := (List.getElem?_eq_some_iff.mp hk).1; omega
          have ub : u.natAbs < 2 ^ 30 := by omega
          have vb : v.natAbs < 2 ^ 20 := by omega
          have p1 : (a * u).natAbs < 2 ^ 50 := bits_mul (n := 20) (m := 30) aa ub
          have p2 : (b * u).natAbs < 2 ^ 50 := bits_mul (n := 20) (m := 30) b_ ub
          have p3 : (c * v).natAbs < 2 ^ 40 := bits_mul (n := 20) (m := 20) c_ vb
          unfold rd_law_tells_b1
          show gNm 9 (.tuple [.int u, .int v]) _ _
          walk_at "dd"
          have ev : a * u * u + b * u * v + c * v * v = valF (a, b, c) u v := rfl
          rw [ev]
          have grow : ∀ t, t ∈ (four x y).take (i + 1) ↔ t ∈ (four x y).take i ∨ t = (u, v) := fun t => by
            rw [take_snoc hk, List.mem_append, List.mem_singleton]
          refine ⟨mulOk aa ub (by decide), mulOk p1 ub (by decide), mulOk b_ ub (by decide), mulOk p2 vb (by decide), mulOk c_ vb (by decide), mulOk p3 vb (by decide), fun q => ?_, fun q => ?_⟩
          · have l2 := h2.len
            refine ⟨by rw [List.length_map]; omega, (L2 ++ [[u, v]], _), by rw [List.map_append]; rfl, ?_⟩
            refine ⟨fun t => ?_, ?_, ?_⟩
            · rw [List.mem_append, h2.mem, List.mem_singleton]
              constructor
              · rintro (⟨x', s, rfl, hv, hh⟩ | rfl)
                · refine ⟨x', s, rfl, hv, ?_⟩
                  rcases hh with hh | hh | hh
                  · exact .inl hh
                  · exact .inr (.inl hh)
                  · exact .inr (.inr ((grow _).mpr (.inl hh)))
                · exact ⟨u, v, rfl, q, .inr (.inr ((grow _).mpr (.inr rfl)))⟩
              · rintro ⟨x', s, rfl, hv, hh⟩
                rcases hh with hh | hh | hh
                · exact .inl ⟨x', s, rfl, hv, .inl hh⟩
                · exact .inl ⟨x', s, rfl, hv, .inr (.inl hh)⟩
                · rcases (grow _).mp hh with hh | hh
                  · exact .inl ⟨x', s, rfl, hv, .inr (.inr hh)⟩
                  · cases hh
                    exact .inr rfl
            · rw [List.nodup_append]
              refine ⟨h2.nd, List.nodup_cons.mpr ⟨List.not_mem_nil, List.nodup_nil⟩, fun t ht w2 hw e => ?_⟩
              rw [List.mem_singleton.mp hw] at e
              subst e
              obtain ⟨x', s, e, _, hh⟩ := (h2.mem _).mp ht
              simp only [List.cons.injEq, and_true] at e
              obtain ⟨rfl, rfl⟩ := e
              rcases hh with hh | hh | hh
              · omega
              · omega
              · obtain ⟨j, hj⟩ := List.getElem?_of_mem hh
                have jl : j < i := by
                  have := (List.getElem?_eq_some_iff.mp hj).1
                  rw [List.length_take] at this
                  omega
                rw [List.getElem?_take_of_lt jl] at hj
                obtain ⟨l1, e1⟩ := List.getElem?_eq_some_iff.mp hj
                obtain ⟨l2, e2⟩ := List.getElem?_eq_some_iff.mp hk
                exact List.pairwise_iff_getElem.mp nd4 j i l1 l2 jl (by rw [e1, e2])
            · show (L2 ++ [[u, v]]).length ≤ _
              rw [List.length_append, List.length_singleton]
              omega
          · refine ⟨(L2, _), rfl, fun t => ?_, h2.nd, ?_⟩
            · rw [h2.mem]
              constructor
              · rintro ⟨x', s, rfl, hv, hh⟩
                refine ⟨x', s, rfl, hv, ?_⟩
                rcases hh with hh | hh | hh
                · exact .inl hh
                · exact .inr (.inl hh)
                · exact .inr (.inr ((grow _).mpr (.inl hh)))
              · rintro ⟨x', s, rfl, hv, hh⟩
                refine ⟨x', s, rfl, hv, ?_⟩
                rcases hh with hh | hh | hh
                · exact .inl hh
                · exact .inr (.inl hh)
                · rcases (grow _).mp hh with hh | hh
                  · exact .inr (.inr hh)
                  · cases hh
                    exact absurd hv q
            · have := h2.len
              show L2.length ≤ _
              omega
        · rintro ⟨L2, w9⟩ h2
          simp only [List.length_map, List.take_length] at h2
          refine then_intro ?_
          walk_at "dd"
          refine ⟨(L2, x + 1, _), rfl, ⟨?_, ?_, ?_⟩, ?_⟩
          · show 0 ≤ x + 1; omega
          · show x + 1 ≤ 2001; omega
          · refine ⟨fun t => ?_, h2.nd, ?_⟩
            · rw [h2.mem]
              constructor
              · rintro ⟨x', s, rfl, hv, hh⟩
                refine ⟨x', s, rfl, hv, ?_⟩
                rcases hh with hh | hh | hh
                · exact .inl hh
                · exact .inr ⟨hh.1, by show (x'.natAbs : Int) < x + 1; omega⟩
                · have hm := (four_mem x0 y0 _).mp hh
                  exact .inr ⟨hm.2, by show (x'.natAbs : Int) < x + 1; have := hm.1; simp only at this; omega⟩
              · rintro ⟨x', s, rfl, hv, hh⟩
                refine ⟨x', s, rfl, hv, ?_⟩
                rcases hh with hh | ⟨hh, hx⟩
                · exact .inl hh
                · have hx' : (x'.natAbs : Int) < x + 1 := hx
                  rcases (show (x'.natAbs : Int) < x ∨ (x'.natAbs : Int) = x by omega) with w2 | w2
                  · exact .inr (.inl ⟨hh, w2⟩)
                  · exact .inr (.inr ((four_mem x0 y0 _).mpr ⟨w2, hh⟩))
            · have := h2.len
              show L2.length ≤ 10000 * y.toNat + 4 * (x + 1).toNat
              omega
          · show 2001 - (x + 1).toNat < _; omega
      · refine then_intro ?_
        walk_at "dd"
        refine ⟨(L1, y + 1, _, _), rfl, ⟨?_, ?_, ?_⟩, ?_⟩
        · show 0 ≤ y + 1; omega
        · show y + 1 ≤ 71; omega
        · refine ⟨fun t => ?_, h1.nd, ?_⟩
          · rw [h1.mem]
            constructor
            · rintro ⟨x', s, rfl, hv, hh⟩
              refine ⟨x', s, rfl, hv, .inl ?_⟩
              show (s.natAbs : Int) < y + 1
              rcases hh with hh | hh
              · omega
              · have := hh.1; omega
            · rintro ⟨x', s, rfl, hv, hh⟩
              refine ⟨x', s, rfl, hv, ?_⟩
              rcases hh with hh | hh
              · have hh' : (s.natAbs : Int) < y + 1 := hh
                rcases (show (s.natAbs : Int) < y ∨ (s.natAbs : Int) = y by omega) with w2 | w2
                · exact .inl w2
                · exact .inr ⟨w2, far_x (f := (a, b, c)) a0 hd n0 x0 hv w2 (by show 16 * a * n + 4 * b * b * y * y + 1 < 2 * a * x * (2 * a * x); omega)⟩
              · exact hh.elim
          · have := h1.len
            show L1.length ≤ 10000 * (y + 1).toNat
            omega
        · show 71 - (y + 1).toNat < _; omega
    · refine then_intro ?_
      walk_at "dd"
      have hl := hL.len
      refine ⟨L, 2, rfl, by decide, fun t ht => ?_, fun ms pm so => ?_⟩
      · obtain ⟨x, s, rfl, _⟩ := (hL.mem t).mp ht
        rfl
      · refine h ms ⟨fun t => ?_, pm.nodup_iff.mpr hL.nd, so⟩
        rw [pm.mem_iff, hL.mem]
        constructor
        · rintro ⟨x, s, rfl, hv, _⟩
          exact ⟨x, s, rfl, hv⟩
        · rintro ⟨x, s, rfl, hv⟩
          refine ⟨x, s, rfl, hv, .inl ?_⟩
          refine far_y (f := (a, b, c)) a0 hd y0 hv ?_
          rw [hD]
          show 4 * a * n < _
          omega
  · exact h.elim
local macro_rules | `(tactic| walk_at "d1") => `(tactic| try simp only [dSeq, dSkip, dPass, dRet, dRetN, dDrop, dCond, dAsg, gNm, gTp, dOwn, dOwnL, dPar, dAug, dApp, dExt, dFrz, dFor, dLc, dBreak, dCont, dVar, dC, dOp, dT, dIsi, dNeg, dNot, dTNot, dAnd, dOr, dTAnd, dTOr, dIf, dCh, dNil, dCons, dTup, dLst, dIxO, dB, dCall, dCallW, dItems, dRng1, dRng2, dYes, fnE, startE, startW, startS, dLenO, dLenS, dIxS, dSl, dPt, dNo, wipeE, addD_int, addD_str, addD_tup, addD_lst, subD_int, mulD_int, mulD_tup, mulD_lst, fdivD_int, modD_int, powD_int, shlD_int, shrD_int, andD_int, ltD_int, leD_int, gtD_int, geD_int, eqD_ap, neD_ap, isD_ap, isNotD_ap, isNon_none, isNon_int, isNon_bool, isNon_str, isNon_tup, isNon_lst, isInt_none, isInt_int, isInt_bool, isInt_str, isInt_tup, isInt_lst, isBool_none, isBool_int, isBool_bool, isBool_str, isBool_tup, isBool_lst, isStr_none, isStr_int, isStr_bool, isStr_str, isStr_tup, isStr_lst, isTup_none, isTup_int, isTup_bool, isTup_str, isTup_tup, isTup_lst, isLst_lst, Cnd_true, Cnd_false, Cnd_not, Cnd_dec, asB_bool, forall_const, true_implies, false_implies, implies_true, decide_true, decide_false, Classical.not_not, negD_int, notD_bool, onVal_val, onOwn_own, onDic_dic, onScr_scr, onWv_wv, onInt_int, onTup_tup, onLst_lst, onItems_lst, onItems_tup, frz1_own, frz1_val, frz1_un, ixD_lst, ixD_tup, ixL_int, optD_some, optI_some, absD_int, intD_int, intD_bool, lenD_lst, lenD_tup, lenD_str, tupleD_lst, tupleD_tup, listD_lst, listD_tup, min2D_int, max2D_int, sumD_ints, allD_bls, anyD_bls, slD_lst, slD_tup, slD_str, gNl_nil, gCs_cons, par2_two, seq1_lst, seq1_tup, rng1D_int, rng2D_int, gt_z, gt_s, sp_next_int, set_z, set_s, List.map_cons, List.map_nil, List.length_cons, List.length_nil, List.cons_append, List.nil_append, List.replicate, Nat.reduceAdd, Nat.reduceSub, Nat.zero_add, shaped_int, shaped_bool, shaped_none, shaped_listI, shaped_tupI, shaped_nilL, shaped_nilT, eqv_int, eqv_bool, eqv_str, eqv_none, eqv_list_nil, List.isEmpty_nil, List.isEmpty_cons, Bool.true_eq_false, Bool.false_eq_true, decide_eq_true_eq, and_self, true_and, and_true, not_dec, Bool.not_eq_true', decide_eq_false_iff_not, atI_0, atI_1, atI_2, ite_true, ite_false, if_true, if_false, reduceIte, Bool.not_true, Bool.not_false, not_true_eq_false, not_false_eq_true, List.set_cons_zero, List.set_cons_succ, dPar3, dRev, par3_three, sortedD_ints, revD_tup, two_nat, one_nat, three_nat, dCh3, dOwnC, dPutPar, putPar_two, dZip2, zip2D_lst, zip2D_tup, dPut, isBD_bl, isNotBD_bl, dNewO, dPutO, dSortedO, putKD_int, dPar3O, dParO2, par3O_two, parO2_one, minLD_lst, dKeysW, rdPairs_nil, rdPairs_cons, onPair_ii, revD_lst])
local macro_rules | `(tactic| walk_at "dd") => `(tactic| (walk_at "d1"; repeat (with_reducible (refine then_intro ?_); walk_at "d1")))
def rd_unit_two : DTS :=
  (dRet (dIf (dT (dOp eqD (dOp modD (dVar 0) (dC (.int 4))) (dC (.int 0)))) (dTup (dCons (dC (.int 1)) (dCons (dC (.int 0)) (dCons (dOp fdivD (dNeg (dVar 0)) (dC (.int 4))) dNil)))) (dTup (dCons (dC (.int 1)) (dCons (dC (.int 1)) (dCons (dOp fdivD (dOp subD (dC (.int 1)) (dVar 0)) (dC (.int 4))) dNil))))))
def sp_unit_two : Lay.Spec := fun ds R => match ds with
  | [.int d] => R (formD (unitF d))
  | _ => False
theorem ok_unit_two : ∀ ds R, sp_unit_two ds R → rd_unit_two (fnE R) (startE 1 ds) := by
  intro ds R h
  unfold sp_unit_two at h
  split at h
  · rename_i d
    unfold unitF at h
    unfold rd_unit_two
    walk_at "dd"
    rw [fmod_pos _ (by decide)]
    refine ⟨by decide, fun z => ⟨divOk (by decide) (n := 3) (by decide) (by decide), ?_⟩, fun z => ⟨divOk (by decide) (n := 3) (by decide) (by decide), ?_⟩⟩
    · rw [if_pos z] at h
      rw [fdiv_pos _ (by decide)]
      exact h
    · rw [if_neg z] at h
      rw [fdiv_pos _ (by decide)]
      exact h
  · exact h.elim
theorem spx_unit_two {d : Int} {R : D → Prop} : sp_unit_two [.int d] R = R (formD (unitF d)) := rfl
local macro_rules | `(tactic| walk_at "d1") => `(tactic| try simp only [dSeq, dSkip, dPass, dRet, dRetN, dDrop, dCond, dAsg, gNm, gTp, dOwn, dOwnL, dPar, dAug, dApp, dExt, dFrz, dFor, dLc, dBreak, dCont, dVar, dC, dOp, dT, dIsi, dNeg, dNot, dTNot, dAnd, dOr, dTAnd, dTOr, dIf, dCh, dNil, dCons, dTup, dLst, dIxO, dB, dCall, dCallW, dItems, dRng1, dRng2, dYes, fnE, startE, startW, startS, dLenO, dLenS, dIxS, dSl, dPt, dNo, wipeE, addD_int, addD_str, addD_tup, addD_lst, subD_int, mulD_int, mulD_tup, mulD_lst, fdivD_int, modD_int, powD_int, shlD_int, shrD_int, andD_int, ltD_int, leD_int, gtD_int, geD_int, eqD_ap, neD_ap, isD_ap, isNotD_ap, isNon_none, isNon_int, isNon_bool, isNon_str, isNon_tup, isNon_lst, isInt_none, isInt_int, isInt_bool, isInt_str, isInt_tup, isInt_lst, isBool_none, isBool_int, isBool_bool, isBool_str, isBool_tup, isBool_lst, isStr_none, isStr_int, isStr_bool, isStr_str, isStr_tup, isStr_lst, isTup_none, isTup_int, isTup_bool, isTup_str, isTup_tup, isTup_lst, isLst_lst, Cnd_true, Cnd_false, Cnd_not, Cnd_dec, asB_bool, forall_const, true_implies, false_implies, implies_true, decide_true, decide_false, Classical.not_not, negD_int, notD_bool, onVal_val, onOwn_own, onDic_dic, onScr_scr, onWv_wv, onInt_int, onTup_tup, onLst_lst, onItems_lst, onItems_tup, frz1_own, frz1_val, frz1_un, ixD_lst, ixD_tup, ixL_int, optD_some, optI_some, absD_int, intD_int, intD_bool, lenD_lst, lenD_tup, lenD_str, tupleD_lst, tupleD_tup, listD_lst, listD_tup, min2D_int, max2D_int, sumD_ints, allD_bls, anyD_bls, slD_lst, slD_tup, slD_str, gNl_nil, gCs_cons, par2_two, seq1_lst, seq1_tup, rng1D_int, rng2D_int, gt_z, gt_s, sp_next_int, set_z, set_s, List.map_cons, List.map_nil, List.length_cons, List.length_nil, List.cons_append, List.nil_append, List.replicate, Nat.reduceAdd, Nat.reduceSub, Nat.zero_add, shaped_int, shaped_bool, shaped_none, shaped_listI, shaped_tupI, shaped_nilL, shaped_nilT, eqv_int, eqv_bool, eqv_str, eqv_none, eqv_list_nil, List.isEmpty_nil, List.isEmpty_cons, Bool.true_eq_false, Bool.false_eq_true, decide_eq_true_eq, and_self, true_and, and_true, not_dec, Bool.not_eq_true', decide_eq_false_iff_not, atI_0, atI_1, atI_2, ite_true, ite_false, if_true, if_false, reduceIte, Bool.not_true, Bool.not_false, not_true_eq_false, not_false_eq_true, List.set_cons_zero, List.set_cons_succ, dPar3, dRev, par3_three, sortedD_ints, revD_tup, two_nat, one_nat, three_nat, dCh3, dOwnC, dPutPar, putPar_two, dZip2, zip2D_lst, zip2D_tup, dPut, isBD_bl, isNotBD_bl, dNewO, dPutO, dSortedO, putKD_int, dPar3O, dParO2, par3O_two, parO2_one, minLD_lst, dKeysW, rdPairs_nil, rdPairs_cons, onPair_ii, revD_lst])
local macro_rules | `(tactic| walk_at "dd") => `(tactic| (walk_at "d1"; repeat (with_reducible (refine then_intro ?_); walk_at "d1")))
theorem alike_int {i j : Int} (e : i = j) {R : D → Prop} (h : R (.bool true)) : sp_law_alike [.int i, .int j] R := by
  subst e
  refine ⟨⟨(by decide : 0 < 8), rfl, rfl, rfl⟩, ?_⟩
  have : alike (.int i) (.int i) = true := decide_eq_true rfl
  rw [this]
  exact h
theorem alike_bl {i j : Bool} (e : i = j) {R : D → Prop} (h : R (.bool true)) : sp_law_alike [.bool i, .bool j] R := by
  subst e
  refine ⟨⟨(by decide : 0 < 8), rfl, rfl, rfl⟩, ?_⟩
  have : alike (.bool i) (.bool i) = true := decide_eq_true rfl
  rw [this]
  exact h
theorem alike_non {R : D → Prop} (h : R (.bool true)) : sp_law_alike [.none, .none] R := ⟨⟨(by decide : 0 < 8), rfl, rfl, rfl⟩, h⟩
mutual
/-- tuples of whole numbers, truths, texts, None, n deep at the most -/
def tame : D → Nat → Bool
  | .tuple ds, n => decide (0 < n) && decide (ds.length ≤ 1000000) && tameAll ds (n - 1)
  | .list _, _ => false
  | .dict _, _ => false
  | .str z, _ => PyData.canLay0 (.str z)
  | _, _ => true
def tameAll : List D → Nat → Bool
  | [], _ => true
  | d :: ds, n => tame d n && tameAll ds n
end
theorem tameAll_of {n : Nat} : ∀ {ds : List D}, (∀ d ∈ ds, tame d n = true) → tameAll ds n = true
  | [], _ => rfl
  | d :: ds, h => by
    rw [tameAll, h d List.mem_cons_self, tameAll_of fun e he => h e (List.mem_cons_of_mem _ he)]
    rfl
theorem tame_map {α : Type} {n : Nat} {f : α → D} (h : ∀ x, tame (f x) n = true) (xs : List α) (hl : xs.length ≤ 1000000) : tame (.tuple (xs.map f)) (n + 1) = true := by
  rw [tame, Nat.add_sub_cancel, tameAll_of (fun d hd => by obtain ⟨x, _, rfl⟩ := List.mem_map.mp hd; exact h x), List.length_map, decide_eq_true hl, decide_eq_true (Nat.succ_pos n)]
  rfl
mutual
theorem tame_is : ∀ (d : D) (n : Nat), tame d n = true → alike d d = true ∧ plainD d = true ∧ PyData.canLay0 d = true ∧ PyData.depth d ≤ n
  | .tuple ds, n, h => by
    rw [tame, Bool.and_eq_true, Bool.and_eq_true] at h
    obtain ⟨h1, h2, h3, h4⟩ := tameAll_is ds (n - 1) h.2
    have h0 := of_decide_eq_true h.1.1
    refine ⟨by rw [alike]; exact h1, by rw [plainD, h.1.2, h2]; rfl, h3, ?_⟩
    rw [dp_tup]
    omega
  | .list _, _, h => by cases h
  | .dict _, _, h => by cases h
  | .none, _, _ => ⟨rfl, rfl, rfl, Nat.zero_le _⟩
  | .int i, _, _ => ⟨by rw [alike]; exact decide_eq_true rfl, rfl, rfl, Nat.zero_le _⟩
  | .bool i, _, _ => ⟨by rw [alike]; exact decide_eq_true rfl, rfl, rfl, Nat.zero_le _⟩
  | .str i, _, h => ⟨by rw [alike]; exact decide_eq_true rfl, rfl, h, Nat.zero_le _⟩
theorem tameAll_is : ∀ (ds : List D) (n : Nat), tameAll ds n = true → alikeAll ds ds = true ∧ plainAll ds = true ∧ PyData.canLayAll0 ds = true ∧ PyData.depthAll ds ≤ n
  | [], n, _ => ⟨rfl, rfl, rfl, Nat.zero_le _⟩
  | d :: ds, n, h => by
    rw [tameAll, Bool.and_eq_true] at h
    obtain ⟨a1, a2, a3, a4⟩ := tame_is d n h.1
    obtain ⟨b1, b2, b3, b4⟩ := tameAll_is ds n h.2
    refine ⟨by rw [alikeAll, a1, b1]; rfl, by rw [plainAll, a2, b2]; rfl, by rw [cl_cons, a3, b3]; rfl, ?_⟩
    rw [PyData.depthAll]
    exact Nat.max_le.mpr ⟨a4, b4⟩
end
theorem alike_self {d : D} (n : Nat) (t : tame d n = true) {R : D → Prop} (h : R (.bool true)) (hn : n < 8 := by decide) : sp_law_alike [d, d] R := by
  obtain ⟨h1, h2, h3, h4⟩ := tame_is d n t
  refine ⟨⟨by omega, h2, h3, h3⟩, ?_⟩
  rw [h1]
  exact h
theorem alike_eq {d e : D} (n : Nat) (t : tame d n = true) (q : d = e) {R : D → Prop} (h : R (.bool true)) (hn : n < 8 := by decide) : sp_law_alike [d, e] R := by
  subst q
  exact alike_self n t h hn
theorem tame_sh {d : D} (n : Nat) (t : tame d n = true) (hn : n ≤ 64 := by decide) : SeqAt.shaped d = true := by
  obtain ⟨_, _, h3, h4⟩ := tame_is d n t
  exact shaped_of h3 (by omega)
theorem tame_eqv {d : D} (n : Nat) (t : tame d n = true) : PyData.eqv d d = true := PySem.SeqAt.eqv_refl d (tame_is d n t).2.2.1
local macro_rules | `(tactic| walk_at "d1") => `(tactic| try simp only [dSeq, dSkip, dPass, dRet, dRetN, dDrop, dCond, dAsg, gNm, gTp, dOwn, dOwnL, dPar, dAug, dApp, dExt, dFrz, dFor, dLc, dBreak, dCont, dVar, dC, dOp, dT, dIsi, dNeg, dNot, dTNot, dAnd, dOr, dTAnd, dTOr, dIf, dCh, dNil, dCons, dTup, dLst, dIxO, dB, dCall, dCallW, dItems, dRng1, dRng2, dYes, fnE, startE, startW, startS, dLenO, dLenS, dIxS, dSl, dPt, dNo, wipeE, addD_int, addD_str, addD_tup, addD_lst, subD_int, mulD_int, mulD_tup, mulD_lst, fdivD_int, modD_int, powD_int, shlD_int, shrD_int, andD_int, ltD_int, leD_int, gtD_int, geD_int, eqD_ap, neD_ap, isD_ap, isNotD_ap, isNon_none, isNon_int, isNon_bool, isNon_str, isNon_tup, isNon_lst, isInt_none, isInt_int, isInt_bool, isInt_str, isInt_tup, isInt_lst, isBool_none, isBool_int, isBool_bool, isBool_str, isBool_tup, isBool_lst, isStr_none, isStr_int, isStr_bool, isStr_str, isStr_tup, isStr_lst, isTup_none, isTup_int, isTup_bool, isTup_str, isTup_tup, isTup_lst, isLst_lst, Cnd_true, Cnd_false, Cnd_not, Cnd_dec, asB_bool, forall_const, true_implies, false_implies, implies_true, decide_true, decide_false, Classical.not_not, negD_int, notD_bool, onVal_val, onOwn_own, onDic_dic, onScr_scr, onWv_wv, onInt_int, onTup_tup, onLst_lst, onItems_lst, onItems_tup, frz1_own, frz1_val, frz1_un, ixD_lst, ixD_tup, ixL_int, optD_some, optI_some, absD_int, intD_int, intD_bool, lenD_lst, lenD_tup, lenD_str, tupleD_lst, tupleD_tup, listD_lst, listD_tup, min2D_int, max2D_int, sumD_ints, allD_bls, anyD_bls, slD_lst, slD_tup, slD_str, gNl_nil, gCs_cons, par2_two, seq1_lst, seq1_tup, rng1D_int, rng2D_int, gt_z, gt_s, sp_next_int, set_z, set_s, List.map_cons, List.map_nil, List.length_cons, List.length_nil, List.cons_append, List.nil_append, List.replicate, Nat.reduceAdd, Nat.reduceSub, Nat.zero_add, shaped_int, shaped_bool, shaped_none, shaped_listI, shaped_tupI, shaped_nilL, shaped_nilT, eqv_int, eqv_bool, eqv_str, eqv_none, eqv_list_nil, List.isEmpty_nil, List.isEmpty_cons, Bool.true_eq_false, Bool.false_eq_true, decide_eq_true_eq, and_self, true_and, and_true, not_dec, Bool.not_eq_true', decide_eq_false_iff_not, atI_0, atI_1, atI_2, ite_true, ite_false, if_true, if_false, reduceIte, Bool.not_true, Bool.not_false, not_true_eq_false, not_false_eq_true, List.set_cons_zero, List.set_cons_succ, dPar3, dRev, par3_three, sortedD_ints, revD_tup, two_nat, one_nat, three_nat, dCh3, dOwnC, dPutPar, putPar_two, dZip2, zip2D_lst, zip2D_tup, dPut, isBD_bl, isNotBD_bl, dNewO, dPutO, dSortedO, putKD_int, dPar3O, dParO2, par3O_two, parO2_one, minLD_lst, dKeysW, rdPairs_nil, rdPairs_cons, onPair_ii, revD_lst, spx_common, spx_least_two, spx_all_two, spx_unit_two, spx_law_common_v1, spx_law_all])
local macro_rules | `(tactic| walk_at "dd") => `(tactic| (walk_at "d1"; repeat (with_reducible (refine then_intro ?_); walk_at "d1")))
def rd_law_k54_b1 : DTS :=
  (dSeq (dAsg (dCall sp_law_all (dCons (dVar 4) dNil)) (gNm 5)) (dSeq (dCond (dTNot (dT (dCall sp_law_alike (dCons (dCall sp_all_two (dCons (dVar 4) dNil)) (dCons (dB tupleD (dCons (dVar 5) dNil)) dNil))))) (dRet (dC (.bool false))) dSkip) (dCond (dTNot (dT (dCall sp_law_alike (dCons (dCall sp_unit_two (dCons (dVar 4) dNil)) (dCons (dOp ixD (dLc true (dItems (dVar 5)) (gNm 6) (dT (dOp eqD (dOp ixD (dVar 6) (dC (.int 0))) (dC (.int 1)))) (dVar 6) [6]) (dC (.int 0))) dNil))))) (dRet (dC (.bool false))) dSkip)))
def rd_law_k54_b2 : DTS :=
  (dSeq (dAsg (dOp addD (dC (.int 1)) (dCallW 1 sp_next (dCons (dC (.int 150)) dNil))) (gNm 3)) (dFor (dItems (dTup (dCons (dOp mulD (dNeg (dC (.int 4))) (dVar 3)) (dCons (dOp subD (dC (.int 1)) (dOp mulD (dC (.int 4)) (dVar 3))) dNil)))) (gNm 4) rd_law_k54_b1))
def rd_law_k54 : DTS :=
  (dSeq (dFor (dRng1 (dCons (dC (.int 4)) dNil)) (gNm 2) rd_law_k54_b2) (dRet (dCall sp_law_alike (dCons (dCall sp_all_two (dCons (dNeg (dC (.int 23))) dNil)) (dCons (dTup (dCons (dTup (dCons (dC (.int 1)) (dCons (dC (.int 1)) (dCons (dC (.int 6)) dNil)))) (dCons (dTup (dCons (dC (.int 2)) (dCons (dNeg (dC (.int 1))) (dCons (dC (.int 3)) dNil)))) (dCons (dTup (dCons (dC (.int 2)) (dCons (dC (.int 1)) (dCons (dC (.int 3)) dNil)))) dNil)))) dNil)))))
def unI (l : List Int) : Form := match l with | [a, b, c] => (a, b, c) | _ => (0, 0, 0)
theorem forms_of {ms : List (List Int)} {F : List Form} (h : ms.Perm (F.map formI)) : ∃ fs : List Form, ms = fs.map formI ∧ fs.Perm F := by
  refine ⟨ms.map unI, ?_, ?_⟩
  · rw [List.map_map]
    refine (List.map_id ms).symm.trans (List.map_congr_left fun m hm => ?_)
    obtain ⟨f, _, rfl⟩ := List.mem_map.mp (h.mem_iff.mp hm)
    rfl
  · have := h.map unI
    rw [List.map_map] at this
    have e : F.map (unI ∘ formI) = F := (List.map_congr_left fun f _ => rfl).trans (List.map_id F)
    rwa [e] at this
theorem ok_law_k54 : rd_law_k54 (fnE fun d => d = .bool true) (.un :: .wv :: List.replicate 5 .un) := by
  unfold rd_law_k54
  walk_at "dd"
  refine ⟨by decide, ?_⟩
  refine for_by (fun (s : Sl × Sl × Sl × Sl × Sl) => [.un, .wv, s.1, s.2.1, s.2.2.1, s.2.2.2.1, s.2.2.2.2]) (fun _ _ => True) (.un, .un, .un, .un, .un) rfl trivial ?_ ?_
  · rintro i d hd ⟨u1, u2, u3, u4, u5⟩ _ bk
    unfold rd_law_k54_b2
    walk_at "dd"
    refine ⟨by decide, fun n n0 n1 _ => ?_⟩
    refine ⟨mulOk (x := -4) (n := 3) (m := 25) (by decide) (by omega) (by decide), mulOk (x := 4) (n := 3) (m := 25) (by decide) (by omega) (by decide), ?_⟩
    refine for_by (fun (s : Sl × Sl × Sl) => [.un, .wv, .val d, .val (.int (1 + n)), s.1, s.2.1, s.2.2]) (fun _ _ => True) (u3, u4, u5) rfl trivial ?_ ?_
    · rintro j e he ⟨v1, v2, v3⟩ _ bk2
      obtain ⟨d, rfl, d0, dl, d4⟩ : ∃ d : Int, e = .int d ∧ d < 0 ∧ d.natAbs ≤ 600 ∧ (d % 4 = 0 ∨ d % 4 = 1) := by
        have hm := List.mem_of_getElem? he
        simp only [List.mem_cons, List.not_mem_nil, or_false] at hm
        rcases hm with rfl | rfl
        · exact ⟨_, rfl, by omega, by omega, by omega⟩
        · exact ⟨_, rfl, by omega, by omega, by omega⟩
      unfold rd_law_k54_b1
      walk_at "dd"
      refine ⟨⟨d0, by omega⟩, fun ms h1 h2 => ?_⟩
      walk_at "dd"
      refine ⟨⟨d0, by omega⟩, fun ms' h3 h4 => ?_⟩
      have e2 : ms' = ms := lex_unique (d := 3) (h3.trans h1.symm) (fun x hx => by obtain ⟨f, _, rfl⟩ := List.mem_map.mp (h3.mem_iff.mp hx); rfl) h4 h2
      subst e2
      have hlen : ms'.length ≤ 1000000 := by
        rw [h1.length_eq, List.length_map]
        have := allF_len d 600 (by omega) ((-d).toNat + 1 - 1) 1 rfl
        have h2 : ((-d).toNat + 1 - 1) * (2 * 600) ≤ 600 * (2 * 600) := Nat.mul_le_mul_right _ (by omega)
        omega
      obtain ⟨fs, rfl, hp⟩ := forms_of h1
      refine alike_self 2 ?_ ?_
      · rw [List.map_map]
        rw [List.length_map] at hlen
        exact tame_map (n := 1) (f := formD) (fun f => rfl) _ hlen
      walk_at "dd"
      rw [List.map_map]
      have efm : fs.filterMap (fun f : Form => if f.1 = 1 then some f else none) = fs.filter (fun f => decide (f.1 = 1)) := by
        clear hp hlen h1 h2 h3 h4
        induction fs with
        | nil => rfl
        | cons f fs ih =>
          by_cases z : f.1 = 1
          · rw [List.filterMap_cons_some (by rw [if_pos z]), List.filter_cons_of_pos (by rw [decide_eq_true z]), ih]
          · rw [List.filterMap_cons_none (by rw [if_neg z]), List.filter_cons_of_neg (by rw [decide_eq_true_eq]; exact z), ih]
      refine lc_map (f := tupD ∘ formI) (k := formD) (p := fun f : Form => if f.1 = 1 then some f else none) (fun z => nomatch z) (fun f hf P hP => ?_) ?_
      · show gNm 6 (formD f) _ _
        have ef : formD f = .tuple [.int f.1, .int f.2.1, .int f.2.2] := rfl
        rw [ef]
        walk_at "dd"
        refine ⟨fun z => ?_, fun z => ?_⟩
        · rw [if_pos z] at hP
          exact hP
        · rw [if_neg z] at hP
          exact hP
      · have hpf := hp.filter (fun f => decide (f.1 = 1))
        rw [allF_first d0 d4] at hpf
        rw [efm, List.perm_singleton.mp hpf]
        walk_at "dd"
        refine alike_self 1 rfl ?_
        walk_at "dd"
        exact ⟨(_, _, _), rfl⟩
    · rintro ⟨v1, v2, v3⟩ _
      exact ⟨(_, _, _, _, _), rfl⟩
  · rintro ⟨u1, u2, u3, u4, u5⟩ _
    walk_at "dd"
    refine ⟨by decide, fun ms h1 h2 => ?_⟩
    have e23 : allF (-23) 1 = [(1, 1, 6), (2, -1, 3), (2, 1, 3)] := by
      rw [allF_more (by decide), allF_more (by decide), allF_stop (by decide)]
      rfl
    rw [e23] at h1
    have e : ms = [[1, 1, 6], [2, -1, 3], [2, 1, 3]] := lex_unique (d := 3) h1 (fun x hx => by obtain ⟨f, _, rfl⟩ := List.mem_map.mp (h1.mem_iff.mp hx); rfl) h2 (by decide)
    subst e
    exact alike_self 2 rfl rfl
local macro_rules | `(tactic| walk_at "d1") => `(tactic| try simp only [dSeq, dSkip, dPass, dRet, dRetN, dDrop, dCond, dAsg, gNm, gTp, dOwn, dOwnL, dPar, dAug, dApp, dExt, dFrz, dFor, dLc, dBreak, dCont, dVar, dC, dOp, dT, dIsi, dNeg, dNot, dTNot, dAnd, dOr, dTAnd, dTOr, dIf, dCh, dNil, dCons, dTup, dLst, dIxO, dB, dCall, dCallW, dItems, dRng1, dRng2, dYes, fnE, startE, startW, startS, dLenO, dLenS, dIxS, dSl, dPt, dNo, wipeE, addD_int, addD_str, addD_tup, addD_lst, subD_int, mulD_int, mulD_tup, mulD_lst, fdivD_int, modD_int, powD_int, shlD_int, shrD_int, andD_int, ltD_int, leD_int, gtD_int, geD_int, eqD_ap, neD_ap, isD_ap, isNotD_ap, isNon_none, isNon_int, isNon_bool, isNon_str, isNon_tup, isNon_lst, isInt_none, isInt_int, isInt_bool, isInt_str, isInt_tup, isInt_lst, isBool_none, isBool_int, isBool_bool, isBool_str, isBool_tup, isBool_lst, isStr_none, isStr_int, isStr_bool, isStr_str, isStr_tup, isStr_lst, isTup_none, isTup_int, isTup_bool, isTup_str, isTup_tup, isTup_lst, isLst_lst, Cnd_true, Cnd_false, Cnd_not, Cnd_dec, asB_bool, forall_const, true_implies, false_implies, implies_true, decide_true, decide_false, Classical.not_not, negD_int, notD_bool, onVal_val, onOwn_own, onDic_dic, onScr_scr, onWv_wv, onInt_int, onTup_tup, onLst_lst, onItems_lst, onItems_tup, frz1_own, frz1_val, frz1_un, ixD_lst, ixD_tup, ixL_int, optD_some, optI_some, absD_int, intD_int, intD_bool, lenD_lst, lenD_tup, lenD_str, tupleD_lst, tupleD_tup, listD_lst, listD_tup, min2D_int, max2D_int, sumD_ints, allD_bls, anyD_bls, slD_lst, slD_tup, slD_str, gNl_nil, gCs_cons, par2_two, seq1_lst, seq1_tup, rng1D_int, rng2D_int, gt_z, gt_s, sp_next_int, set_z, set_s, List.map_cons, List.map_nil, List.length_cons, List.length_nil, List.cons_append, List.nil_append, List.replicate, Nat.reduceAdd, Nat.reduceSub, Nat.zero_add, shaped_int, shaped_bool, shaped_none, shaped_listI, shaped_tupI, shaped_nilL, shaped_nilT, eqv_int, eqv_bool, eqv_str, eqv_none, eqv_list_nil, List.isEmpty_nil, List.isEmpty_cons, Bool.true_eq_false, Bool.false_eq_true, decide_eq_true_eq, and_self, true_and, and_true, not_dec, Bool.not_eq_true', decide_eq_false_iff_not, atI_0, atI_1, atI_2, ite_true, ite_false, if_true, if_false, reduceIte, Bool.not_true, Bool.not_false, not_true_eq_false, not_false_eq_true, List.set_cons_zero, List.set_cons_succ, dPar3, dRev, par3_three, sortedD_ints, revD_tup, two_nat, one_nat, three_nat, dCh3, dOwnC, dPutPar, putPar_two, dZip2, zip2D_lst, zip2D_tup, dPut, isBD_bl, isNotBD_bl, dNewO, dPutO, dSortedO, putKD_int, dPar3O, dParO2, par3O_two, parO2_one, minLD_lst, dKeysW, rdPairs_nil, rdPairs_cons, onPair_ii, revD_lst, spx_law_d, spx_common, spx_least_two, spx_all_two, spx_law_common_v1, spx_law_all, spx_unit_two, spx_size_of_two, spx_law_changed, spx_law_drawn_v2])
local macro_rules | `(tactic| walk_at "dd") => `(tactic| (walk_at "d1"; repeat (with_reducible (refine then_intro ?_); walk_at "d1")))
/-- a least form of d, one of the law's list -/
structure FD (d : Int) (f : Form) : Prop where
  mem : f ∈ allF d 1
  pos : 0 < f.1
  red : Red f
  disc : disc f = d
  prim : Nat.gcd (Int.gcd f.1 f.2.1) f.2.2.natAbs = 1
theorem rowF_mem {d : Int} {a : Nat} (a0 : 0 < a) {f : Form} (h : f ∈ rowF d a (bsOf a)) : 0 < f.1 ∧ Red f ∧ disc f = d ∧ Nat.gcd (Int.gcd f.1 f.2.1) f.2.2.natAbs = 1 := by
  unfold rowF at h
  obtain ⟨b, hb, rfl⟩ := List.mem_map.mp h
  have ok := (List.mem_filter.mp hb).2
  unfold okF at ok
  rw [Bool.and_eq_true, Bool.and_eq_true, decide_eq_true_eq, decide_eq_true_eq, decide_eq_true_eq] at ok
  obtain ⟨⟨o1, o2⟩, o3⟩ := ok
  refine ⟨by show (0 : Int) < a; omega, o2, ?_, o3⟩
  unfold disc
  show b * b - 4 * (a : Int) * cOf d a b = d
  have e := Int.mul_ediv_add_emod (b * b - d) (4 * (a : Int))
  unfold cOf
  omega
theorem allF_mem {d : Int} : ∀ (n a : Nat), (-d).toNat + 1 - a = n → 0 < a → ∀ f ∈ allF d a, 0 < f.1 ∧ Red f ∧ disc f = d ∧ Nat.gcd (Int.gcd f.1 f.2.1) f.2.2.natAbs = 1
  | 0, a, h, a0, f, hf => by
    rw [allF_stop (fun z => by have := sq_lt z; omega)] at hf
    cases hf
  | n + 1, a, h, a0, f, hf => by
    by_cases z : 3 * (a : Int) * a ≤ -d
    · rw [allF_more z] at hf
      rcases List.mem_append.mp hf with m | m
      · exact rowF_mem a0 m
      · exact allF_mem n (a + 1) (by omega) (by omega) f m
    · rw [allF_stop z] at hf
      cases hf
theorem fd_of {d : Int} {f : Form} (h : f ∈ allF d 1) : FD d f := by
  obtain ⟨h1, h2, h3, h4⟩ := allF_mem (d := d) _ 1 rfl Nat.one_pos f h
  exact ⟨h, h1, h2, h3, h4⟩
theorem dS_all : ∀ d ∈ dS, d < 0 ∧ -260 ≤ d ∧ (d % 4 = 0 ∨ d % 4 = 1) := by decide
theorem FD.bd {d : Int} {f : Form} (h : FD d f) (hd : -260 ≤ d) : f.1 ≤ 9 ∧ f.2.1.natAbs ≤ 9 ∧ 0 < f.2.2 ∧ f.2.2 ≤ 85 := by
  have h0 := h.pos
  obtain ⟨r1, r2, r3, _⟩ := h.red
  have h1 := red_disc h0 h.red
  rw [h.disc] at h1
  have a9 : f.1 ≤ 9 := by
    rcases (show f.1 ≤ 9 ∨ 10 ≤ f.1 by omega) with z | z
    · exact z
    · have := Int.mul_le_mul z z (by decide) (by omega)
      omega
  have hb := abs_sq_le (a := 9) (b := f.2.1) (by omega) (by omega)
  have e := h.disc
  unfold Lay.disc at e
  have h2 := Int.mul_le_mul_of_nonneg_right (show 4 ≤ 4 * f.1 by omega) (show 0 ≤ f.2.2 by omega)
  exact ⟨a9, by omega, by omega, by omega⟩
theorem FD.bd3 {d : Int} {f : Form} (h : FD d f) (hd : -260 ≤ d) : Bd3 85 f := by
  obtain ⟨h1, h2, h3, h4⟩ := h.bd hd
  have := h.pos
  exact ⟨by omega, by omega, by omega⟩
theorem allF_ne {d : Int} (h0 : d < 0) (h4 : d % 4 = 0 ∨ d % 4 = 1) : allF d 1 ≠ [] := fun e => by
  have := allF_first h0 h4
  rw [e] at this
  cases this
/-- one of the list -/
theorem pick_every {d : Int} (hd : d ∈ dS) {R : D → Prop} (h : ∀ f, FD d f → R (formD f)) : sp_law_all [.int d] fun xs => sp_law_pick [xs] R := by
  obtain ⟨d0, d2, d4⟩ := dS_all d hd
  refine ⟨⟨d0, by omega⟩, fun ms h1 _ => ?_⟩
  obtain ⟨fs, rfl, hp⟩ := forms_of h1
  refine ⟨fun e => ?_, fun x hx => ?_⟩
  · have : fs = [] := by
      have := congrArg List.length e
      rw [List.length_map, List.length_map] at this
      exact List.length_eq_zero_iff.mp this
    subst this
    exact allF_ne d0 d4 (List.nil_perm.mp hp)
  · rw [List.map_map] at hx
    obtain ⟨f, hf, rfl⟩ := List.mem_map.mp hx
    exact h f (fd_of (hp.mem_iff.mp hf))
local macro_rules | `(tactic| walk_at "d1") => `(tactic| try simp only [dSeq, dSkip, dPass, dRet, dRetN, dDrop, dCond, dAsg, gNm, gTp, dOwn, dOwnL, dPar, dAug, dApp, dExt, dFrz, dFor, dLc, dBreak, dCont, dVar, dC, dOp, dT, dIsi, dNeg, dNot, dTNot, dAnd, dOr, dTAnd, dTOr, dIf, dCh, dNil, dCons, dTup, dLst, dIxO, dB, dCall, dCallW, dItems, dRng1, dRng2, dYes, fnE, startE, startW, startS, dLenO, dLenS, dIxS, dSl, dPt, dNo, wipeE, addD_int, addD_str, addD_tup, addD_lst, subD_int, mulD_int, mulD_tup, mulD_lst, fdivD_int, modD_int, powD_int, shlD_int, shrD_int, andD_int, ltD_int, leD_int, gtD_int, geD_int, eqD_ap, neD_ap, isD_ap, isNotD_ap, isNon_none, isNon_int, isNon_bool, isNon_str, isNon_tup, isNon_lst, isInt_none, isInt_int, isInt_bool, isInt_str, isInt_tup, isInt_lst, isBool_none, isBool_int, isBool_bool, isBool_str, isBool_tup, isBool_lst, isStr_none, isStr_int, isStr_bool, isStr_str, isStr_tup, isStr_lst, isTup_none, isTup_int, isTup_bool, isTup_str, isTup_tup, isTup_lst, isLst_lst, Cnd_true, Cnd_false, Cnd_not, Cnd_dec, asB_bool, forall_const, true_implies, false_implies, implies_true, decide_true, decide_false, Classical.not_not, negD_int, notD_bool, onVal_val, onOwn_own, onDic_dic, onScr_scr, onWv_wv, onInt_int, onTup_tup, onLst_lst, onItems_lst, onItems_tup, frz1_own, frz1_val, frz1_un, ixD_lst, ixD_tup, ixL_int, optD_some, optI_some, absD_int, intD_int, intD_bool, lenD_lst, lenD_tup, lenD_str, tupleD_lst, tupleD_tup, listD_lst, listD_tup, min2D_int, max2D_int, sumD_ints, allD_bls, anyD_bls, slD_lst, slD_tup, slD_str, gNl_nil, gCs_cons, par2_two, seq1_lst, seq1_tup, rng1D_int, rng2D_int, gt_z, gt_s, sp_next_int, set_z, set_s, List.map_cons, List.map_nil, List.length_cons, List.length_nil, List.cons_append, List.nil_append, List.replicate, Nat.reduceAdd, Nat.reduceSub, Nat.zero_add, shaped_int, shaped_bool, shaped_none, shaped_listI, shaped_tupI, shaped_nilL, shaped_nilT, eqv_int, eqv_bool, eqv_str, eqv_none, eqv_list_nil, List.isEmpty_nil, List.isEmpty_cons, Bool.true_eq_false, Bool.false_eq_true, decide_eq_true_eq, and_self, true_and, and_true, not_dec, Bool.not_eq_true', decide_eq_false_iff_not, atI_0, atI_1, atI_2, ite_true, ite_false, if_true, if_false, reduceIte, Bool.not_true, Bool.not_false, not_true_eq_false, not_false_eq_true, List.set_cons_zero, List.set_cons_succ, dPar3, dRev, par3_three, sortedD_ints, revD_tup, two_nat, one_nat, three_nat, dCh3, dOwnC, dPutPar, putPar_two, dZip2, zip2D_lst, zip2D_tup, dPut, isBD_bl, isNotBD_bl, dNewO, dPutO, dSortedO, putKD_int, dPar3O, dParO2, par3O_two, parO2_one, minLD_lst, dKeysW, rdPairs_nil, rdPairs_cons, onPair_ii, revD_lst, spx_law_d, spx_common, spx_least_two, spx_all_two, spx_law_common_v1, spx_law_all, spx_unit_two, spx_size_of_two, spx_law_changed, spx_law_drawn_v2, spx_law_least, spx_roots_for, spx_tells, spx_law_below_nothing, spx_law_tells])
local macro_rules | `(tactic| walk_at "dd") => `(tactic| (walk_at "d1"; repeat (with_reducible (refine then_intro ?_); walk_at "d1")))
def rd_law_k53_b1 : DTS :=
  (dSeq (dAsg (dCallW 1 sp_law_pick (dCons (dCall sp_law_all (dCons (dCallW 1 sp_law_d dNil) dNil)) dNil)) (gNm 3)) (dSeq (dAsg (dCallW 1 sp_law_drawn_v2 (dCons (dVar 3) dNil)) (gNm 4)) (dSeq (dCond (dTOr (dTNot (dT (dCall sp_law_alike (dCons (dCall sp_least_two (dCons (dVar 4) dNil)) (dCons (dVar 3) dNil))))) (dTNot (dT (dCall sp_law_alike (dCons (dCall sp_least_two (dCons (dVar 4) dNil)) (dCons (dCall sp_law_least (dCons (dVar 4) dNil)) dNil)))))) (dRet (dC (.bool false))) dSkip) (dSeq (dAsg (dOp addD (dC (.int 1)) (dCallW 1 sp_next (dCons (dC (.int 60)) dNil))) (gNm 5)) (dCond (dTNot (dT (dCall sp_law_alike (dCons (dCall sp_tells (dCons (dVar 3) (dCons (dVar 5) dNil))) (dCons (dCall sp_law_tells (dCons (dVar 3) (dCons (dVar 5) dNil))) dNil))))) (dRet (dC (.bool false))) dSkip)))))
def rd_law_k53 : DTS :=
  (dSeq (dFor (dRng1 (dCons (dC (.int 5)) dNil)) (gNm 2) rd_law_k53_b1) (dRet (dCall sp_law_alike (dCons (dCall sp_tells (dCons (dTup (dCons (dC (.int 1)) (dCons (dC (.int 0)) (dCons (dC (.int 1)) dNil)))) (dCons (dC (.int 5)) dNil))) (dCons (dTup (dCons (dTup (dCons (dNeg (dC (.int 2))) (dCons (dNeg (dC (.int 1))) dNil))) (dCons (dTup (dCons (dNeg (dC (.int 2))) (dCons (dC (.int 1)) dNil))) (dCons (dTup (dCons (dNeg (dC (.int 1))) (dCons (dNeg (dC (.int 2))) dNil))) (dCons (dTup (dCons (dNeg (dC (.int 1))) (dCons (dC (.int 2)) dNil))) (dCons (dTup (dCons (dC (.int 1)) (dCons (dNeg (dC (.int 2))) dNil))) (dCons (dTup (dCons (dC (.int 1)) (dCons (dC (.int 2)) dNil))) (dCons (dTup (dCons (dC (.int 2)) (dCons (dNeg (dC (.int 1))) dNil))) (dCons (dTup (dCons (dC (.int 2)) (dCons (dC (.int 1)) dNil))) dNil))))))))) dNil)))))
theorem form_tame (f : Form) : tame (formD f) 1 = true := rfl
theorem sols_tame {ms : List (List Int)} {f : Form} {n : Int} (h : Sols f n ms) (hl : ms.length ≤ 1000000) : tame (.tuple (ms.map tupD)) 2 = true := by
  rw [tame, tameAll_of (fun d hd => ?_), List.length_map, decide_eq_true hl]
  · rfl
  · obtain ⟨t, ht, rfl⟩ := List.mem_map.mp hd
    obtain ⟨x, y, rfl, _⟩ := (h.1 t).mp ht
    rfl
def fives : List (List Int) := [[-2, -1], [-2, 1], [-1, -2], [-1, 2], [1, -2], [1, 2], [2, -1], [2, 1]]
theorem small_sq {x : Int} (h : x * x ≤ 5) : x = -2 ∨ x = -1 ∨ x = 0 ∨ x = 1 ∨ x = 2 := by
  have h1 : x ≤ 2 := by
    rcases (show x ≤ 2 ∨ 3 ≤ x by omega) with z | z
    · exact z
    · have := Int.mul_le_mul z z (by decide) (by omega); omega
  have h2 : -2 ≤ x := by
    rcases (show -2 ≤ x ∨ 3 ≤ -x by omega) with z | z
    · exact z
    · have := Int.mul_le_mul z z (by decide) (by omega)
      rw [Int.neg_mul_neg] at this
      omega
  omega
theorem fives_sols : Sols (1, 0, 1) 5 fives := by
  refine ⟨fun t => ⟨fun h => ?_, ?_⟩, by decide, by decide⟩
  · unfold fives at h
    simp only [List.mem_cons, List.not_mem_nil, or_false] at h
    rcases h with rfl | rfl | rfl | rfl | rfl | rfl | rfl | rfl <;> exact ⟨_, _, rfl, rfl⟩
  · rintro ⟨x, y, rfl, hv⟩
    have e : x * x + y * y = 5 := by
      rw [← hv]
      unfold valF
      simp only
      grind
    have hx := small_sq (x := x) (by have := sqI_nonneg y; omega)
    have hy := small_sq (x := y) (by have := sqI_nonneg x; omega)
    rcases hx with rfl | rfl | rfl | rfl | rfl <;> rcases hy with rfl | rfl | rfl | rfl | rfl <;> first | (exfalso; revert e; decide) | decide
theorem ok_law_k53 : rd_law_k53 (fnE fun d => d = .bool true) (.un :: .wv :: List.replicate 4 .un) := by
  unfold rd_law_k53
  walk_at "dd"
  refine ⟨by decide, ?_⟩
  refine for_by (fun (s : Sl × Sl × Sl × Sl) => [.un, .wv, s.1, s.2.1, s.2.2.1, s.2.2.2]) (fun _ _ => True) (.un, .un, .un, .un) rfl trivial ?_ ?_
  · rintro i e he ⟨u1, u2, u3, u4⟩ _ bk
    unfold rd_law_k53_b1
    walk_at "dd"
    intro d hd
    obtain ⟨d0, d2, d4⟩ := dS_all d hd
    refine pick_every hd fun f hf => ?_
    obtain ⟨b1, b2, b3, b4⟩ := hf.bd d2
    have a0 := hf.pos
    have hdf : disc f < 0 := by rw [hf.disc]; exact d0
    have ef : formD f = .tuple [.int f.1, .int f.2.1, .int f.2.2] := rfl
    walk_at "dd"
    rw [ef]
    walk_at "dd"
    refine ⟨⟨by show f.1.natAbs ≤ 1000; omega, by show f.2.1.natAbs ≤ 1000; omega, by show f.2.2.natAbs ≤ 1000; omega⟩, fun g hg gb => ?_⟩
    obtain ⟨g1, g2, g3⟩ := gb
    have eg : formD g = .tuple [.int g.1, .int g.2.1, .int g.2.2] := rfl
    have g0 := hg.pos a0 hdf
    have gd : disc g < 0 := by have e : disc g = disc f := hg.disc; rw [e]; exact hdf
    have p30 : 8000000 < 2 ^ 30 := by decide
    have gs : g.1.natAbs < 2 ^ 30 ∧ g.2.1.natAbs < 2 ^ 30 ∧ g.2.2.natAbs < 2 ^ 30 := ⟨by omega, by omega, by omega⟩
    walk_at "dd"
    rw [eg]
    walk_at "dd"
    have sm : ∃ k, k ≤ 1000 ∧ g.1.natAbs < 2 ^ k ∧ g.2.1.natAbs < 2 ^ k ∧ g.2.2.natAbs < 2 ^ k := ⟨30, by decide, gs⟩
    have uni : ∀ h, Eqv g h → Red h → h = f := fun h hh hr => (red_unique a0 hdf (hg.trans hh) hf.red hr).symm
    refine ⟨⟨g0, gd, sm⟩, fun h1 q1 r1 _ => ?_⟩
    have e1 := uni h1 q1.eqv r1
    rw [e1, ← ef]
    refine alike_self 1 (form_tame f) ?_
    walk_at "dd"
    refine ⟨⟨g0, gd, sm⟩, fun h2 q2 r2 _ => ⟨⟨g0, gd, sm⟩, fun h3 q3 r3 => ?_⟩⟩
    rw [uni h2 q2.eqv r2, uni h3 q3 r3]
    refine alike_self 1 (form_tame f) ?_
    walk_at "dd"
    refine ⟨by decide, fun n n0 n1 _ => ?_⟩
    rw [ef]
    refine then_intro ?_
    walk_at "dd"
    refine ⟨⟨a0, hdf, by omega, by omega, by omega, by omega, by omega⟩, fun ms hm hl => ⟨⟨a0, hdf, by omega, by omega, by omega, by omega, by omega⟩, fun ms2 hm2 => ?_⟩⟩
    rw [hm2.uniq hm]
    refine alike_self 2 (sols_tame hm hl) ?_
    walk_at "dd"
    exact ⟨(_, _, _, _), rfl⟩
  · rintro ⟨u1, u2, u3, u4⟩ _
    walk_at "dd"
    refine ⟨by decide, fun ms hm _ => ?_⟩
    rw [hm.uniq fives_sols]
    exact alike_self 2 rfl rfl
def top (i : Nat) : Stmt := PySem.Challenge.pw_placewise_k53_least_forms_of_two_letters.main.body.getD i (.Pass ⟨0, 0, 0, 0⟩)
section
variable {P : Program} {w : World} {K : PySem.W.Frag} {mg : Str → Option Value} {base : Heap}
abbrev s_law_draws : Stmt := top 8
theorem sc_law_draws : FnScope ["script", "many", "draws", "mixed", "k", "cell", "rest", "turn"] ["script", "many"] (defScope s_law_draws) := ⟨rfl, rfl, rfl, by decide +kernel, rfl, by decide +kernel, by decide +kernel⟩
theorem fn_law_draws {f : Addr} {fd : FuncData} (F : Fun K "_law_draws" "_law_draws" s_law_draws f fd) (z_len : mg "len" = none) (z_range : mg "range" = none) (z_int : mg "int" = none) (z_abs : mg "abs" = none) : FnOk P w K mg base CX0 1 f fd ["script", "many"] (liftSpS K 1 sp_draws) :=
  def_okS (k := 0) (m := rd_law_draws) F sc_law_draws (by decide) (fun cdv A outer s H E c hr =>
    have hu := hr.units
    have nd := sc_law_draws.nd
    (dss_cons (sown 2 nd da_nil)
    (dss_cons (sset 3 nd de_int)
    (dss_cons (ds_for PassesOwn.never rfl (di_range1 (by rfl) z_range (da_cons (de_lenS 0 z_len) da_nil)) (gn 4 nd) (dss_cons (sset 5 nd (de_abs (by rfl) z_abs (da_cons (de_int1 (by rfl) z_int (da_cons (de_ixS 0 (nv 4)) da_nil)) da_nil)))
    (dss_cons (sset 3 nd (de_mod (de_int1 (by rfl) z_int (da_cons (de_add (de_add (de_mul (nv 3) de_int) (de_mod (nv 5) de_int)) (nv 4)) da_nil)) de_int))
    (dss_cons (sset 6 nd de_int)
    (dss_cons (ds_if (dt_ge (nv 5) (de_pow de_int de_int)) (dss_one (sset 6 nd (nv 5))) (dss_cons (sapp 2 (de_mod (de_int1 (by rfl) z_int (da_cons (nv 5) da_nil)) de_int))
    (dss_one (sapp 2 (de_mod (de_mod (de_int1 (by rfl) z_int (da_cons (de_add (de_mul (nv 3) de_int) de_int) da_nil)) de_int) de_int)))))
    (dss_one (ds_for PassesOwn.never rfl (di_range1 (by rfl) z_range (da_cons de_int da_nil)) (gn 7 nd) (dss_one (ds_if (dt_gt (nv 6) de_int) (dss_cons (sapp 2 (de_mod (de_int1 (by rfl) z_int (da_cons (nv 6) da_nil)) de_int))
    (dss_one (sset 6 nd (de_fdiv (nv 6) de_int)))) dss_nil)))))))))
    (dss_cons (ds_for PassesOwn.never rfl (di_range1 (by rfl) z_range (da_cons (nv 1) da_nil)) (gn 4 nd) (dss_cons (sset 3 nd (de_mod (de_int1 (by rfl) z_int (da_cons (de_add (de_add (de_mul (nv 3) de_int) (nv 4)) de_int) da_nil)) de_int))
    (dss_one (sapp 2 (de_mod (de_int1 (by rfl) z_int (da_cons (nv 3) da_nil)) de_int)))))
    (dss_one (ds_frz 2 (ds_ret (de_slice (nv 2) do_none (do_some (nv 1))))))))))) (fun ns ds R _ h63 h => ok_law_draws ns ds R h63 h)
abbrev s_law_next : Stmt := top 9
theorem sc_law_next : FnScope ["w", "many"] ["w", "many"] (defScope s_law_next) := ⟨rfl, rfl, rfl, by decide +kernel, rfl, by decide +kernel, by decide +kernel⟩
theorem fn_law_next {f : Addr} {fd : FuncData} (F : Fun K "_law_next" "_law_next" s_law_next f fd) (z_len : mg "len" = none) (z_int : mg "int" = none) : FnOk P w K mg base CX0 1 f fd ["w", "many"] (liftSpW K 1 sp_next) := by
  refine F.ok sc_law_next (fun vs H Q E h => ?_) (fun cdv A outer s H vs Q E hr h => ?_)
  · obtain ⟨_, _, _, _, _, rfl, h, _⟩ := h
    rw [List.length_cons, h]
    rfl
  obtain ⟨p, us, F0, ds, R, rfl, hl, hF, hn, hw, rv, hsp, kk⟩ := h
  have hu := hu_of hr
  obtain ⟨n, ns, h1, h2, h0, hns⟩ := hw
  have npd : p.1 ≠ p.2 := ne_of h1 h2 (by intro z; cases z)
  unfold sp_next at hsp
  split at hsp
  · rename_i many
    obtain ⟨v, rfl, r1⟩ := rv.one
    cases r1
    obtain ⟨m0, hsp⟩ := hsp
    have fin : ∀ (r : Int), 0 ≤ r → r < many → r < 997 → Q (.int r) (upd H p.1 (.dK [(.inr "draws", .ref p.2), (.inr "at", .int (n + 1))])) := fun r a b c => by
      refine kk _ (hsp r a b c) (.int r) F0 _ ⟨fun _ _ e => e, fun b o e => ?_, fun b o e nb => ?_, fun _ _ e z => (nomatch e.symm.trans z), fun q e => ?_⟩ (.int _)
      · rw [upd_ne (fun z => by subst z; rw [hn] at e; cases e)]; exact hF _ _ e
      · rw [upd_ne (fun z => nb ⟨p.2, by rw [z]⟩)]; exact e
      · cases e
        exact ⟨n + 1, ns, upd_same, by rw [upd_ne npd.symm]; exact h2, by omega, hns⟩
    refine ⟨_, pss_cons (ps_daug hu (pv 0) pe_str pe_int in_add (fun _ _ _ => rfl))
      (pss_cons (ps_if (pt_cmpR op_gt (pe_dget hu (pv 0) pe_str (fun _ _ => rfl)) (pe_callB call_len_seq rfl z_len PySem.boot_len (pa_cons (pe_dget hu (pv 0) pe_str (fun _ _ => rfl)) pa_nil)) (nomark _)) (pss_one (ps_ret pe_int)) pss_nil)
      (pss_one (ps_ret (pe_op op_mod (pe_callTy call_int1 rfl z_int boot_int (pa_cons (pe_ix ix_list (pe_dget hu (pv 0) pe_str (fun _ _ => rfl)) (pe_op op_sub (pe_dget hu (pv 0) pe_str (fun _ _ => rfl)) pe_int) (fun _ _ => rfl)) pa_nil)) (pv 1))))), ?_⟩
    have g1 : DGet H p.1 (.str "at") (some (.int n)) := DGet.k (k := .inr "at") h1
    have hH : putK [((.inr "draws" : Key), V.ref p.2), (.inr "at", .int n)] (.inr "at") (.int (n + 1)) = [(.inr "draws", .ref p.2), (.inr "at", .int (n + 1))] := rfl
    have hp : DPut H p.1 (.str "at") (.int (n + 1)) (upd H p.1 (.dK [(.inr "draws", .ref p.2), (.inr "at", .int (n + 1))])) := hH ▸ DPut.k (k := .inr "at") h1 (by show 2 < sizeLine; decide)
    generalize hH' : upd H p.1 (.dK [(.inr "draws", .ref p.2), (.inr "at", .int (n + 1))]) = H' at fin hp
    have e1 : H' p.1 = some (.dK [(.inr "draws", .ref p.2), (.inr "at", .int (n + 1))]) := by rw [← hH']; exact upd_same
    have e2 : H' p.2 = some (.lst (ns.map V.int)) := by rw [← hH', upd_ne npd.symm]; exact h2
    have ga : DGet H' p.1 (.str "at") (some (.int (n + 1))) := DGet.k (k := .inr "at") e1
    have gd : DGet H' p.1 (.str "draws") (some (.ref p.2)) := DGet.k (k := .inr "draws") e1
    refine ⟨_, rfl, p.1, _, rfl, g1, _, _, rfl, rfl, _, hp, ?_⟩
    refine ⟨_, rfl, p.1, _, rfl, ga, _, rfl, p.1, _, rfl, gd, p.2, _, rfl, .inl (SqL.of e2), _, _, rfl, rfl, ?_⟩
    have el : ((ns.map V.int).length : Int) = (ns.length : Int) := by rw [List.length_map]
    rw [el]
    refine ⟨_, rfl, ?_⟩
    refine ite2 (fun c => ?_) (fun c => ?_)
    · exact fin 0 (Int.le_refl 0) m0 (by decide)
    · have c' : ¬ (n + 1 > (ns.length : Int)) := of_decide_eq_false (Bool.eq_false_iff.mpr c)
      have hk : n.toNat < ns.length := by omega
      have ek : n + 1 - 1 = ((n.toNat : Nat) : Int) := by omega
      have q : atI (ns.map V.int) (n + 1 - 1) = some (.int ns[n.toNat]) := by
        rw [ek]; exact atI_nat (by rw [List.getElem?_map, List.getElem?_eq_getElem hk]; rfl)
      have hr := hns _ (List.getElem_mem hk)
      refine ⟨_, rfl, p.1, _, rfl, gd, _, rfl, p.1, _, rfl, ga, _, _, rfl, rfl, p.2, _, _, _, rfl, rfl, SqL.of e2, q, .inl ⟨_, rfl, _, rfl, ?_⟩⟩
      refine ⟨_, _, rfl, rfl, m0, ?_⟩
      exact fin _ (Int.emod_nonneg _ (by omega)) (Int.emod_lt_of_pos _ m0) (by
        by_cases z : ns[n.toNat] < many
        · rw [Int.emod_eq_of_lt hr.1 z]; exact hr.2
        · exact Int.lt_trans (Int.lt_of_lt_of_le (Int.emod_lt_of_pos _ m0) (Int.not_lt.mp z)) hr.2)
  · exact hsp.elim
abbrev s_law_pick : Stmt := top 10
theorem sc_law_pick : FnScope ["w", "rows"] ["w", "rows"] (defScope s_law_pick) := ⟨rfl, rfl, rfl, by decide +kernel, rfl, by decide +kernel, by decide +kernel⟩
theorem fn_law_pick {f : Addr} {fd : FuncData} (F : Fun K "_law_pick" "_law_pick" s_law_pick f fd) (z_len : mg "len" = none) (h_law_next : Has P w K mg base 1 "_law_next" ["w", "many"] (liftSpW K 1 sp_next)) : FnOk P w K mg base CX0 2 f fd ["w", "rows"] (liftSpW K 1 sp_law_pick) :=
  def_okW (k := 1) (m := rd_law_pick) F sc_law_pick (by decide) (fun cdv A outer s H E c hr =>
    have hu := hr.units
    have nd := sc_law_pick.nd
    (dss_one (ds_ret (de_ix (nv 1) (kallW 0 h_law_next hr (da_cons (de_len (by rfl) z_len (da_cons (nv 1) da_nil)) da_nil)))))) (fun ds R _ h => ok_law_pick ds R h)
abbrev s_law_common : Stmt := top 12
theorem sc_law_common : FnScope ["a", "b"] ["a", "b"] (defScope s_law_common) := ⟨rfl, rfl, rfl, by decide +kernel, rfl, by decide +kernel, by decide +kernel⟩
theorem fn_law_common {f : Addr} {fd : FuncData} (F : Fun K "_law_common" "_law_common" s_law_common f fd) (z_abs : mg "abs" = none) (z_int : mg "int" = none) : FnOk P w K mg base CX0 1 f fd ["a", "b"] (liftSp K 2 sp_law_common_v1) :=
  def_ok (k := 0) (m := rd_law_common_v1) F sc_law_common (fun cdv A outer s H E c hr =>
    have hu := hr.units
    have nd := sc_law_common.nd
    (dss_cons (spar 0 1 nd (da_cons (de_abs (by rfl) z_abs (da_cons (nv 0) da_nil)) (da_cons (de_abs (by rfl) z_abs (da_cons (nv 1) da_nil)) da_nil)))
    (dss_cons (ds_while PassesOwn.never (dt_ne (hu) (nv 1) de_int) (dss_one (spar 0 1 nd (da_cons (nv 1) (da_cons (de_mod (de_int1 (by rfl) z_int (da_cons (nv 0) da_nil)) (nv 1)) da_nil)))))
    (dss_one (ds_ret (nv 0)))))) (fun ds R _ h => ok_law_common_v1 ds R h)
abbrev s_law_all : Stmt := top 15
theorem sc_law_all : FnScope ["d", "found", "a", "b", "c"] ["d"] (defScope s_law_all) := ⟨rfl, rfl, rfl, by decide +kernel, rfl, by decide +kernel, by decide +kernel⟩
theorem fn_law_all {f : Addr} {fd : FuncData} (F : Fun K "_law_all" "_law_all" s_law_all f fd) (z_range : mg "range" = none) (z_int : mg "int" = none) (z_sorted : mg "sorted" = none) (h_law_common : Has P w K mg base 1 "_law_common" ["a", "b"] (liftSp K 2 sp_law_common_v1)) : FnOk P w K mg base CX0 2 f fd ["d"] (liftSp K 1 sp_law_all) :=
  def_ok (k := 1) (m := rd_law_all) F sc_law_all (fun cdv A outer s H E c hr =>
    have hu := hr.units
    have nd := sc_law_all.nd
    (dss_cons (sown 1 nd da_nil)
    (dss_cons (sset 2 nd de_int)
    (dss_cons (ds_while PassesOwn.never (dt_le (de_mul (de_mul de_int (nv 2)) (nv 2)) (de_neg (nv 0))) (dss_cons (ds_for PassesOwn.never rfl (di_range2 (by rfl) z_range (da_cons (de_add (de_neg (nv 2)) de_int) (da_cons (de_add (nv 2) de_int) da_nil))) (gn 3 nd) (dss_one (ds_if (dt_eq (hu) (de_mod (de_int1 (by rfl) z_int (da_cons (de_sub (de_mul (nv 3) (nv 3)) (nv 0)) da_nil)) (de_mul de_int (nv 2))) de_int) (dss_cons (sset 4 nd (de_fdiv (de_sub (de_mul (nv 3) (nv 3)) (nv 0)) (de_mul de_int (nv 2))))
    (dss_one (ds_if (dw_and (dt_ge (nv 4) (nv 2)) (dw_and (dw_or (dt_ge (nv 3) de_int) (dw_or1 (dt_ne (hu) (nv 2) (nv 4)))).dt (dw_and1 (dt_eq (hu) (kall h_law_common hr (da_cons (kall h_law_common hr (da_cons (nv 2) (da_cons (nv 3) da_nil))) (da_cons (nv 4) da_nil))) de_int)))).dt (dss_one (sapp 1 (de_tup (da_cons (nv 2) (da_cons (nv 3) (da_cons (nv 4) da_nil)))))) dss_nil))) dss_nil)))
    (dss_one (saug 2 ip_add nd de_int))))
    (dss_one (ds_frz 1 (ds_ret (de_sortedT z_sorted (da_cons (nv 1) da_nil))))))))) (fun ds R _ h => ok_law_all ds R h)
abbrev s_law_d : Stmt := top 18
theorem sc_law_d : FnScope ["w"] ["w"] (defScope s_law_d) := ⟨rfl, rfl, rfl, by decide +kernel, rfl, by decide +kernel, by decide +kernel⟩
theorem fn_law_d {f : Addr} {fd : FuncData} (F : Fun K "_law_d" "_law_d" s_law_d f fd) (h_law_pick : Has P w K mg base 2 "_law_pick" ["w", "rows"] (liftSpW K 1 sp_law_pick)) : FnOk P w K mg base CX0 3 f fd ["w"] (liftSpW K 0 sp_law_d) :=
  def_okW (k := 2) (m := rd_law_d) F sc_law_d (by decide) (fun cdv A outer s H E c hr =>
    have hu := hr.units
    have nd := sc_law_d.nd
    (dss_one (ds_ret (kallW 0 h_law_pick hr (da_cons (de_lst (da_cons (de_neg de_int) (da_cons (de_neg de_int) (da_cons (de_neg de_int) (da_cons (de_neg de_int) (da_cons (de_neg de_int) (da_cons (de_neg de_int) (da_cons (de_neg de_int) (da_cons (de_neg de_int) (da_cons (de_neg de_int) (da_cons (de_neg de_int) (da_cons (de_neg de_int) (da_cons (de_neg de_int) (da_cons (de_neg de_int) (da_cons (de_neg de_int) (da_cons (de_neg de_int) (da_cons (de_neg de_int) (da_cons (de_neg de_int) (da_cons (de_neg de_int) (da_cons (de_neg de_int) (da_cons (de_neg de_int) (da_cons (de_neg de_int) (da_cons (de_neg de_int) (da_cons (de_neg de_int) (da_cons (de_neg de_int) (da_cons (de_neg de_int) (da_cons (de_neg de_int) (da_cons (de_neg de_int) (da_cons (de_neg de_int) (da_cons (de_neg de_int) (da_cons (de_neg de_int) (da_cons (de_neg de_int) (da_cons (de_neg de_int) (da_cons (de_neg de_int) (da_cons (de_neg de_int) (da_cons (de_neg de_int) (da_cons (de_neg de_int) (da_cons (de_neg de_int) (da_cons (de_neg de_int) (da_cons (de_neg de_int) (da_cons (de_neg de_int) (da_cons (de_neg de_int) (da_cons (de_neg de_int) (da_cons (de_neg de_int) (da_cons (de_neg de_int) (da_cons (de_neg de_int) da_nil)))))))))))))))))))))))))))))))))))))))))))))) da_nil))))) (fun ds R _ h => ok_law_d ds R h)
abbrev s_law_changed : Stmt := top 16
theorem sc_law_changed : FnScope ["form", "turn", "a", "b", "c", "p", "q", "r", "s"] ["form", "turn"] (defScope s_law_changed) := ⟨rfl, rfl, rfl, by decide +kernel, rfl, by decide +kernel, by decide +kernel⟩
theorem fn_law_changed {f : Addr} {fd : FuncData} (F : Fun K "_law_changed" "_law_changed" s_law_changed f fd) : FnOk P w K mg base CX0 1 f fd ["form", "turn"] (liftSp K 2 sp_law_changed) :=
  def_ok (k := 0) (m := rd_law_changed) F sc_law_changed (fun cdv A outer s H E c hr =>
    have hu := hr.units
    have nd := sc_law_changed.nd
    (dss_cons (ds_asg (nv 0) (dg_tup (by rfl) (dgs_cons (gn 2 nd) (dgs_cons (gn 3 nd) (dgs_cons (gn 4 nd) dgs_nil)))))
    (dss_cons (ds_asg (nv 1) (dg_tup (by rfl) (dgs_cons (gn 5 nd) (dgs_cons (gn 6 nd) (dgs_cons (gn 7 nd) (dgs_cons (gn 8 nd) dgs_nil))))))
    (dss_one (ds_ret (de_tup (da_cons (de_add (de_add (de_mul (de_mul (nv 2) (nv 5)) (nv 5)) (de_mul (de_mul (nv 3) (nv 5)) (nv 7))) (de_mul (de_mul (nv 4) (nv 7)) (nv 7))) (da_cons (de_add (de_add (de_mul (de_mul (de_mul de_int (nv 2)) (nv 5)) (nv 6)) (de_mul (nv 3) (de_add (de_mul (nv 5) (nv 8)) (de_mul (nv 6) (nv 7))))) (de_mul (de_mul (de_mul de_int (nv 4)) (nv 7)) (nv 8))) (da_cons (de_add (de_add (de_mul (de_mul (nv 2) (nv 6)) (nv 6)) (de_mul (de_mul (nv 3) (nv 6)) (nv 8))) (de_mul (de_mul (nv 4) (nv 8)) (nv 8))) da_nil))))))))) (fun ds R _ h => ok_law_changed ds R h)
abbrev s_law_drawn : Stmt := top 17
theorem sc_law_drawn : FnScope ["w", "form", "k"] ["w", "form"] (defScope s_law_drawn) := ⟨rfl, rfl, rfl, by decide +kernel, rfl, by decide +kernel, by decide +kernel⟩
theorem fn_law_drawn {f : Addr} {fd : FuncData} (F : Fun K "_law_drawn" "_law_drawn" s_law_drawn f fd) (z_range : mg "range" = none) (h_law_next : Has P w K mg base 1 "_law_next" ["w", "many"] (liftSpW K 1 sp_next)) (h_law_changed : Has P w K mg base 1 "_law_changed" ["form", "turn"] (liftSp K 2 sp_law_changed)) (h_law_pick : Has P w K mg base 2 "_law_pick" ["w", "rows"] (liftSpW K 1 sp_law_pick)) : FnOk P w K mg base CX0 3 f fd ["w", "form"] (liftSpW K 1 sp_law_drawn_v2) :=
  def_okW (k := 2) (m := rd_law_drawn_v2) F sc_law_drawn (by decide) (fun cdv A outer s H E c hr =>
    have hu := hr.units
    have nd := sc_law_drawn.nd
    (dss_cons (ds_for PassesOwn.never rfl (di_range1 (by rfl) z_range (da_cons (kallW 0 h_law_next hr (da_cons de_int da_nil)) da_nil)) (gn 2 nd) (dss_one (sset 1 nd (kall h_law_changed hr (da_cons (nv 1) (da_cons (kallW 0 h_law_pick hr (da_cons (de_lst (da_cons (de_tup (da_cons de_int (da_cons de_int (da_cons de_int (da_cons de_int da_nil))))) (da_cons (de_tup (da_cons de_int (da_cons (de_neg de_int) (da_cons de_int (da_cons de_int da_nil))))) (da_cons (de_tup (da_cons de_int (da_cons (de_neg de_int) (da_cons de_int (da_cons de_int da_nil))))) (da_cons (de_tup (da_cons de_int (da_cons de_int (da_cons de_int (da_cons de_int da_nil))))) (da_cons (de_tup (da_cons de_int (da_cons de_int (da_cons de_int (da_cons de_int da_nil))))) da_nil)))))) da_nil)) da_nil))))))
    (dss_one (ds_ret (nv 1))))) (fun ds R _ h => ok_law_drawn_v2 ds R h)
abbrev s_law_alike : Stmt := top 11
theorem sc_law_alike : FnScope ["told", "due", "k"] ["told", "due"] (defScope s_law_alike) := ⟨rfl, rfl, rfl, by decide +kernel, rfl, by decide +kernel, by decide +kernel⟩
theorem fn_law_alike {f : Addr} {fd : FuncData} (F : Fun K "_law_alike" "_law_alike" s_law_alike f fd) (bd : Binds K fd ["told", "due"] []) (m_ : mg "_law_alike" = some (.ref f)) (kp : PySem.W.keepIn K (.ref f) = true) (z_isinstance : mg "isinstance" = none) (z_tuple : mg "tuple" = none) (z_len : mg "len" = none) (z_range : mg "range" = none) (z_bool : mg "bool" = none) (z_int : mg "int" = none) (z_str : mg "str" = none) : ∀ n : Nat, FnOk P w K mg base CX0 (0 + n) f fd ["told", "due"] (liftSp K 2 (spn_law_alike n))
  | 0 => by
    have no : ∀ vs H Q E, ¬ liftSp K 2 (spn_law_alike 0) vs H Q E := fun vs H Q E h => by
      obtain ⟨F0, ds, R, _, _, _, h, _⟩ := h
      exact no_law_alike ds R h
    exact ⟨fun vs H Q E h => absurd h (no vs H Q E), fun A outer s H args us vs Q E _ _ _ _ h => absurd h (no vs H Q E)⟩
  | n + 1 =>
    have h_law_alike : Has P w K mg base (0 + n) "_law_alike" ["told", "due"] (liftSp K 2 (spn_law_alike n)) := ⟨f, fd, fn_law_alike F bd m_ kp z_isinstance z_tuple z_len z_range z_bool z_int z_str n, m_, kp, bd⟩
    def_ok (k := 0 + n) (m := rd_law_alike (spn_law_alike n)) F sc_law_alike (fun cdv A outer s H E c hr =>
    have hu := hr.units
    have nd := sc_law_alike.nd
    (dss_cons (ds_if (dt_val (de_isi tells_tuple (by rfl) z_isinstance (by rfl) z_tuple boot_tuple (nv 1))) (dss_cons (ds_if (dw_or (dt_not (dt_val (de_isi tells_tuple (by rfl) z_isinstance (by rfl) z_tuple boot_tuple (nv 0)))) (dw_or1 (dt_ne (hu) (de_len (by rfl) z_len (da_cons (nv 0) da_nil)) (de_len (by rfl) z_len (da_cons (nv 1) da_nil))))).dt (dss_one (ds_ret de_bl)) dss_nil)
    (dss_one (ds_ret (de_eq (hu) (de_lc (own := [("k", 2)]) rfl nd (di_range1 (by rfl) z_range (da_cons (de_len (by rfl) z_len (da_cons (nv 1) da_nil)) da_nil)) (blkOk_by (by kernel_rfl)) (fun _ _ _ _ _ => (gn 2 nd)) (fun _ _ _ _ _ => (dts_one (dt_not (dt_val (kall h_law_alike hr (da_cons (de_ix (nv 0) (nv 2)) (da_cons (de_ix (nv 1) (nv 2)) da_nil)) (by omega)))))) (fun _ _ _ _ _ => (nv 2))) (de_lst da_nil))))) dss_nil)
    (dss_cons (ds_if (dt_is (nv 1) de_non) (dss_one (ds_ret (de_is (nv 0) de_non))) dss_nil)
    (dss_cons (ds_if (dt_val (de_isi tells_bool (by rfl) z_isinstance (by rfl) z_bool boot_bool (nv 1))) (dss_one (ds_ret (de_and (de_isi tells_bool (by rfl) z_isinstance (by rfl) z_bool boot_bool (nv 0)) (de_one (de_eq (hu) (nv 0) (nv 1)))))) dss_nil)
    (dss_cons (ds_if (dt_val (de_isi tells_int (by rfl) z_isinstance (by rfl) z_int boot_int (nv 1))) (dss_one (ds_ret (de_and (de_isi tells_int (by rfl) z_isinstance (by rfl) z_int boot_int (nv 0)) (de_and (de_not (de_isi tells_bool (by rfl) z_isinstance (by rfl) z_bool boot_bool (nv 0))) (de_one (de_eq (hu) (nv 0) (nv 1))))))) dss_nil)
    (dss_one (ds_ret (de_and (de_isi tells_str (by rfl) z_isinstance (by rfl) z_str boot_str (nv 0)) (de_one (de_eq (hu) (nv 0) (nv 1))))))))))) (fun ds R _ h => ok_law_alike n ds R h)
abbrev s_least_two : Stmt := top 4
theorem sc_least_two : FnScope ["form", "a", "b", "c", "by"] ["form"] (defScope s_least_two) := ⟨rfl, rfl, rfl, by decide +kernel, rfl, by decide +kernel, by decide +kernel⟩
theorem fn_least_two {f : Addr} {fd : FuncData} (F : Fun K "least_two" "least_two" s_least_two f fd) : FnOk P w K mg base CX0 1 f fd ["form"] (liftSp K 1 sp_least_two) :=
  def_ok (k := 0) (m := rd_least_two) F sc_least_two (fun cdv A outer s H E c hr =>
    have hu := hr.units
    have nd := sc_least_two.nd
    (dss_cons (ds_asg (nv 0) (dg_tup (by rfl) (dgs_cons (gn 1 nd) (dgs_cons (gn 2 nd) (dgs_cons (gn 3 nd) dgs_nil)))))
    (dss_cons (ds_while PassesOwn.never (dw_or (dt_not (dt_ch3 op_lt op_le op_le sv_lt sv_le sv_le (de_neg (nv 1)) (nv 2) (nv 1) (nv 3))) (dw_or1 (dw_and (dt_eq (hu) (nv 1) (nv 3)) (dw_and1 (dt_lt (nv 2) de_int))).dt)).dt (dss_one (ds_if (dt_not (dt_ch op_lt op_le sv_lt sv_le (de_neg (nv 1)) (nv 2) (nv 1))) (dss_cons (sset 4 nd (de_fdiv (de_sub (nv 1) (nv 2)) (de_mul de_int (nv 1))))
    (dss_cons (sset 3 nd (de_add (de_add (nv 3) (de_mul (nv 4) (nv 2))) (de_mul (de_mul (nv 4) (nv 4)) (nv 1))))
    (dss_one (sset 2 nd (de_add (nv 2) (de_mul (de_mul de_int (nv 4)) (nv 1))))))) (dss_one (spar3 1 2 3 nd (da_cons (nv 3) (da_cons (de_neg (nv 2)) (da_cons (nv 1) da_nil))))))))
    (dss_one (ds_ret (de_tup (da_cons (nv 1) (da_cons (nv 2) (da_cons (nv 3) da_nil))))))))) (fun ds R _ h => ok_least_two ds R h)
abbrev s_law_least : Stmt := top 14
theorem sc_law_least : FnScope ["form", "a", "b", "c", "k"] ["form"] (defScope s_law_least) := ⟨rfl, rfl, rfl, by decide +kernel, rfl, by decide +kernel, by decide +kernel⟩
theorem fn_law_least {f : Addr} {fd : FuncData} (F : Fun K "_law_least" "_law_least" s_law_least f fd) : FnOk P w K mg base CX0 1 f fd ["form"] (liftSp K 1 sp_law_least) :=
  def_ok (k := 0) (m := rd_law_least) F sc_law_least (fun cdv A outer s H E c hr =>
    have hu := hr.units
    have nd := sc_law_least.nd
    (dss_cons (ds_asg (nv 0) (dg_tup (by rfl) (dgs_cons (gn 1 nd) (dgs_cons (gn 2 nd) (dgs_cons (gn 3 nd) dgs_nil)))))
    (dss_one (ds_while PassesOwn.never (dt_val de_bl) (dss_cons (sset 4 nd (de_fdiv (de_sub (nv 1) (nv 2)) (de_mul de_int (nv 1))))
    (dss_cons (spar3 1 2 3 nd (da_cons (nv 1) (da_cons (de_add (nv 2) (de_mul (de_mul de_int (nv 1)) (nv 4))) (da_cons (de_add (de_add (de_mul (de_mul (nv 1) (nv 4)) (nv 4)) (de_mul (nv 2) (nv 4))) (nv 3)) da_nil))))
    (dss_cons (ds_if (dw_or (dt_lt (nv 1) (nv 3)) (dw_or1 (dw_and (dt_eq (hu) (nv 1) (nv 3)) (dw_and1 (dt_ge (nv 2) de_int))).dt)).dt (dss_one (ds_ret (de_tup (da_cons (nv 1) (da_cons (nv 2) (da_cons (nv 3) da_nil)))))) dss_nil)
    (dss_one (spar3 1 2 3 nd (da_cons (nv 3) (da_cons (de_neg (nv 2)) (da_cons (nv 1) da_nil)))))))))))) (fun ds R _ h => ok_law_least ds R h)
abbrev s_law_below_nothing : Stmt := top 13
theorem sc_law_below_nothing : FnScope ["form"] ["form"] (defScope s_law_below_nothing) := ⟨rfl, rfl, rfl, by decide +kernel, rfl, by decide +kernel, by decide +kernel⟩
theorem fn_law_below_nothing {f : Addr} {fd : FuncData} (F : Fun K "_law_below_nothing" "_law_below_nothing" s_law_below_nothing f fd) : FnOk P w K mg base CX0 1 f fd ["form"] (liftSp K 1 sp_law_below_nothing) :=
  def_ok (k := 0) (m := rd_law_below_nothing) F sc_law_below_nothing (fun cdv A outer s H E c hr =>
    have hu := hr.units
    have nd := sc_law_below_nothing.nd
    (dss_one (ds_ret (de_sub (de_mul (de_ix (nv 0) de_int) (de_ix (nv 0) de_int)) (de_mul (de_mul de_int (de_ix (nv 0) de_int)) (de_ix (nv 0) de_int)))))) (fun ds R _ h => ok_law_below_nothing ds R h)
abbrev s_law_tells : Stmt := top 19
theorem sc_law_tells : FnScope ["form", "n", "a", "b", "c", "d", "found", "y", "x", "one"] ["form", "n"] (defScope s_law_tells) := ⟨rfl, rfl, rfl, by decide +kernel, rfl, by decide +kernel, by decide +kernel⟩
theorem fn_law_tells {f : Addr} {fd : FuncData} (F : Fun K "_law_tells" "_law_tells" s_law_tells f fd) (z_sorted : mg "sorted" = none) (z_tuple : mg "tuple" = none) (h_law_below_nothing : Has P w K mg base 1 "_law_below_nothing" ["form"] (liftSp K 1 sp_law_below_nothing)) : FnOk P w K mg base CX0 2 f fd ["form", "n"] (liftSp K 2 sp_law_tells) :=
  def_ok (k := 1) (m := rd_law_tells) F sc_law_tells (fun cdv A outer s H E c hr =>
    have hu := hr.units
    have nd := sc_law_tells.nd
    (dss_cons (ds_asg (nv 0) (dg_tup (by rfl) (dgs_cons (gn 2 nd) (dgs_cons (gn 3 nd) (dgs_cons (gn 4 nd) dgs_nil)))))
    (dss_cons (sset 5 nd (de_neg (kall h_law_below_nothing hr (da_cons (nv 0) da_nil))))
    (dss_cons (sown 6 nd da_nil)
    (dss_cons (sset 7 nd de_int)
    (dss_cons (ds_while PassesOwn.never (dt_le (de_mul (de_mul (nv 5) (nv 7)) (nv 7)) (de_mul (de_mul de_int (nv 2)) (nv 1))) (dss_cons (sset 8 nd de_int)
    (dss_cons (ds_while PassesOwn.never (dt_le (de_mul (de_mul (de_mul de_int (nv 2)) (nv 8)) (de_mul (de_mul de_int (nv 2)) (nv 8))) (de_add (de_add (de_mul (de_mul de_int (nv 2)) (nv 1)) (de_mul (de_mul (de_mul (de_mul de_int (nv 3)) (nv 3)) (nv 7)) (nv 7))) de_int)) (dss_cons (ds_for PassesOwn.never rfl (di_keysW hu (.cons (da_cons (nv 8) (da_cons (nv 7) da_nil)) pe_int (.cons (da_cons (nv 8) (da_cons (de_neg (nv 7)) da_nil)) pe_int (.cons (da_cons (de_neg (nv 8)) (da_cons (nv 7) da_nil)) pe_int (.cons (da_cons (de_neg (nv 8)) (da_cons (de_neg (nv 7)) da_nil)) pe_int .nil))))) (gn 9 nd) (dss_one (ds_if (dt_eq (hu) (de_add (de_add (de_mul (de_mul (nv 2) (de_ix (nv 9) de_int)) (de_ix (nv 9) de_int)) (de_mul (de_mul (nv 3) (de_ix (nv 9) de_int)) (de_ix (nv 9) de_int))) (de_mul (de_mul (nv 4) (de_ix (nv 9) de_int)) (de_ix (nv 9) de_int))) (nv 1)) (dss_one (sapp 6 (nv 9))) dss_nil)))
    (dss_one (saug 8 ip_add nd de_int))))
    (dss_one (saug 7 ip_add nd de_int)))))
    (dss_one (ds_frz 6 (ds_ret (de_tuple (by rfl) z_tuple (da_cons (de_sortedT z_sorted (da_cons (nv 6) da_nil)) da_nil))))))))))) (fun ds R _ h => ok_law_tells ds R h)
abbrev s_size_of_two : Stmt := top 3
theorem sc_size_of_two : FnScope ["form", "a", "b", "c"] ["form"] (defScope s_size_of_two) := ⟨rfl, rfl, rfl, by decide +kernel, rfl, by decide +kernel, by decide +kernel⟩
theorem fn_size_of_two {f : Addr} {fd : FuncData} (F : Fun K "size_of_two" "size_of_two" s_size_of_two f fd) : FnOk P w K mg base CX0 1 f fd ["form"] (liftSp K 1 sp_size_of_two) :=
  def_ok (k := 0) (m := rd_size_of_two) F sc_size_of_two (fun cdv A outer s H E c hr =>
    have hu := hr.units
    have nd := sc_size_of_two.nd
    (dss_cons (ds_asg (nv 0) (dg_tup (by rfl) (dgs_cons (gn 1 nd) (dgs_cons (gn 2 nd) (dgs_cons (gn 3 nd) dgs_nil)))))
    (dss_one (ds_ret (de_sub (de_mul (nv 2) (nv 2)) (de_mul (de_mul de_int (nv 1)) (nv 3))))))) (fun ds R _ h => ok_size_of_two ds R h)
abbrev s_root_of : Stmt := top 1
theorem sc_root_of : FnScope ["n", "x", "y"] ["n"] (defScope s_root_of) := ⟨rfl, rfl, rfl, by decide +kernel, rfl, by decide +kernel, by decide +kernel⟩
theorem fn_root_of {f : Addr} {fd : FuncData} (F : Fun K "root_of" "root_of" s_root_of f fd) : FnOk P w K mg base CX0 1 f fd ["n"] (liftSp K 1 sp_root_of) :=
  def_ok (k := 0) (m := rd_root_of) F sc_root_of (fun cdv A outer s H E c hr =>
    have hu := hr.units
    have nd := sc_root_of.nd
    (dss_cons (ds_if (dt_lt (nv 0) de_int) (dss_one (ds_ret (nv 0))) dss_nil)
    (dss_cons (sset 1 nd (nv 0))
    (dss_cons (sset 2 nd (de_fdiv (de_add (nv 1) de_int) de_int))
    (dss_cons (ds_while PassesOwn.never (dt_lt (nv 2) (nv 1)) (dss_cons (sset 1 nd (nv 2))
    (dss_one (sset 2 nd (de_fdiv (de_add (nv 1) (de_fdiv (nv 0) (nv 1))) de_int)))))
    (dss_one (ds_ret (nv 1)))))))) (fun ds R _ h => ok_root_of ds R h)
abbrev s_roots_for : Stmt := top 6
theorem sc_roots_for : FnScope ["a", "b", "c", "left", "r", "x"] ["a", "b", "c"] (defScope s_roots_for) := ⟨rfl, rfl, rfl, by decide +kernel, rfl, by decide +kernel, by decide +kernel⟩
theorem fn_roots_for {f : Addr} {fd : FuncData} (F : Fun K "roots_for" "roots_for" s_roots_for f fd) (z_sorted : mg "sorted" = none) (z_set : mg "set" = none) (h_root_of : Has P w K mg base 1 "root_of" ["n"] (liftSp K 1 sp_root_of)) : FnOk P w K mg base CX0 2 f fd ["a", "b", "c"] (liftSp K 3 sp_roots_for) :=
  def_ok (k := 1) (m := rd_roots_for) F sc_roots_for (fun cdv A outer s H E c hr =>
    have hu := hr.units
    have nd := sc_roots_for.nd
    (dss_cons (sset 3 nd (de_sub (de_mul (nv 1) (nv 1)) (de_mul (de_mul de_int (nv 0)) (nv 2))))
    (dss_cons (ds_if (dt_lt (nv 3) de_int) (dss_one (ds_ret (de_lst da_nil))) dss_nil)
    (dss_cons (sset 4 nd (kall h_root_of hr (da_cons (nv 3) da_nil)))
    (dss_cons (ds_if (dt_ne (hu) (de_mul (nv 4) (nv 4)) (nv 3)) (dss_one (ds_ret (de_lst da_nil))) dss_nil)
    (dss_one (ds_ret (de_setSort (by rfl) z_sorted z_set (da_cons (de_lc (own := [("x", 5)]) rfl nd (di_seq (de_tup (da_cons (de_add (de_neg (nv 1)) (nv 4)) (da_cons (de_sub (de_neg (nv 1)) (nv 4)) da_nil)))) (blkOk_by (by kernel_rfl)) (fun _ _ _ _ _ => (gn 5 nd)) (fun _ _ _ _ _ => (dts_one (dt_eq (hu) (de_mod (nv 5) (de_mul de_int (nv 0))) de_int))) (fun _ _ _ _ _ => (de_fdiv (nv 5) (de_mul de_int (nv 0))))) da_nil))))))))) (fun ds R _ h => ok_roots_for ds R h)
abbrev s_tells : Stmt := top 5
theorem sc_tells : FnScope ["form", "n", "a", "b", "c", "d", "found", "y", "sign", "x"] ["form", "n"] (defScope s_tells) := ⟨rfl, rfl, rfl, by decide +kernel, rfl, by decide +kernel, by decide +kernel⟩
theorem fn_tells {f : Addr} {fd : FuncData} (F : Fun K "tells" "tells" s_tells f fd) (z_sorted : mg "sorted" = none) (z_tuple : mg "tuple" = none) (h_size_of_two : Has P w K mg base 1 "size_of_two" ["form"] (liftSp K 1 sp_size_of_two)) (h_roots_for : Has P w K mg base 2 "roots_for" ["a", "b", "c"] (liftSp K 3 sp_roots_for)) : FnOk P w K mg base CX0 3 f fd ["form", "n"] (liftSp K 2 sp_tells) :=
  def_ok (k := 2) (m := rd_tells) F sc_tells (fun cdv A outer s H E c hr =>
    have hu := hr.units
    have nd := sc_tells.nd
    (dss_cons (ds_asg (nv 0) (dg_tup (by rfl) (dgs_cons (gn 2 nd) (dgs_cons (gn 3 nd) (dgs_cons (gn 4 nd) dgs_nil)))))
    (dss_cons (sset 5 nd (de_neg (kall h_size_of_two hr (da_cons (nv 0) da_nil))))
    (dss_cons (sown 6 nd da_nil)
    (dss_cons (sset 7 nd de_int)
    (dss_cons (ds_while PassesOwn.never (dt_le (de_mul (de_mul (nv 5) (nv 7)) (nv 7)) (de_mul (de_mul de_int (nv 2)) (nv 1))) (dss_cons (ds_for PassesOwn.never rfl (di_seq (de_if (dt_gt (nv 7) de_int) (de_tup (da_cons (nv 7) (da_cons (de_neg (nv 7)) da_nil))) (de_tup (da_cons de_int da_nil)))) (gn 8 nd) (dss_one (sext 6 (de_lc (own := [("x", 9)]) rfl nd (di_seq (kall h_roots_for hr (da_cons (nv 2) (da_cons (de_mul (nv 3) (nv 8)) (da_cons (de_sub (de_mul (de_mul (nv 4) (nv 8)) (nv 8)) (nv 1)) da_nil))))) (blkOk_by (by kernel_rfl)) (fun _ _ _ _ _ => (gn 9 nd)) (fun _ _ _ _ _ => dts_nil) (fun _ _ _ _ _ => (de_tup (da_cons (nv 9) (da_cons (nv 8) da_nil))))))))
    (dss_one (saug 7 ip_add nd de_int))))
    (dss_one (ds_frz 6 (ds_ret (de_tuple (by rfl) z_tuple (da_cons (de_sortedT z_sorted (da_cons (nv 6) da_nil)) da_nil))))))))))) (fun ds R _ h => ok_tells ds R h)
abbrev s_law : Stmt := top 20
theorem sc_law : FnScope ["script", "w", "turn", "form", "other", "n"] ["script"] (defScope s_law) := ⟨rfl, rfl, rfl, by decide +kernel, rfl, by decide +kernel, by decide +kernel⟩
theorem fn_law {f : Addr} {fd : FuncData} (F : Fun K "law" "law" s_law f fd) (z_range : mg "range" = none) (h_law_draws : Has P w K mg base 1 "_law_draws" ["script", "many"] (liftSpS K 1 sp_draws)) (h_law_pick : Has P w K mg base 2 "_law_pick" ["w", "rows"] (liftSpW K 1 sp_law_pick)) (h_law_all : Has P w K mg base 2 "_law_all" ["d"] (liftSp K 1 sp_law_all)) (h_law_d : Has P w K mg base 3 "_law_d" ["w"] (liftSpW K 0 sp_law_d)) (h_law_drawn : Has P w K mg base 3 "_law_drawn" ["w", "form"] (liftSpW K 1 sp_law_drawn_v2)) (h_law_alike : Has P w K mg base 8 "_law_alike" ["told", "due"] (liftSp K 2 sp_law_alike)) (h_least_two : Has P w K mg base 1 "least_two" ["form"] (liftSp K 1 sp_least_two)) (h_law_least : Has P w K mg base 1 "_law_least" ["form"] (liftSp K 1 sp_law_least)) (h_law_next : Has P w K mg base 1 "_law_next" ["w", "many"] (liftSpW K 1 sp_next)) (h_law_tells : Has P w K mg base 2 "_law_tells" ["form", "n"] (liftSp K 2 sp_law_tells)) (h_tells : Has P w K mg base 3 "tells" ["form", "n"] (liftSp K 2 sp_tells)) : FnOk P w K mg base CX0 9 f fd ["script"] (spLaw K) := by
  obtain ⟨f1, fd1, G1, m1, k1, b1⟩ := h_law_draws
  exact law_ok (k := 8) (many := 300) (m := rd_law_k53) F sc_law (by decide) (by decide) rfl (fun cdv A outer s H E hr => ps_set (i := 1) sc_law.nd rfl (by first | exact Or.inl rfl | exact Or.inr rfl) (pe_disp (pps_cons pe_str (pe_call G1 (hr.mono (by decide)) rfl m1 k1 b1 .nil pass0 (pa_cons (pv 0) (pa_cons pe_int pa_nil))) (pps_cons pe_str pe_int pps_nil)) rfl rfl (fun z => by cases z) (by decide)))
    (fun cdv A outer s H E c hr =>
    have hu := hr.units
    have nd := sc_law.nd
    (dss_cons (ds_for PassesOwn.never rfl (di_range1 (by rfl) z_range (da_cons de_int da_nil)) (gn 2 nd) (dss_cons (sset 3 nd (kallW 1 h_law_pick hr (da_cons (kall h_law_all hr (da_cons (kallW 1 h_law_d hr da_nil) da_nil)) da_nil)))
    (dss_cons (sset 4 nd (kallW 1 h_law_drawn hr (da_cons (nv 3) da_nil)))
    (dss_cons (ds_if (dw_or (dt_not (dt_val (kall h_law_alike hr (da_cons (kall h_least_two hr (da_cons (nv 4) da_nil)) (da_cons (nv 3) da_nil))))) (dw_or1 (dt_not (dt_val (kall h_law_alike hr (da_cons (kall h_least_two hr (da_cons (nv 4) da_nil)) (da_cons (kall h_law_least hr (da_cons (nv 4) da_nil)) da_nil))))))).dt (dss_one (ds_ret de_bl)) dss_nil)
    (dss_cons (sset 5 nd (de_add de_int (kallW 1 h_law_next hr (da_cons de_int da_nil))))
    (dss_one (ds_if (dt_not (dt_val (kall h_law_alike hr (da_cons (kall h_tells hr (da_cons (nv 3) (da_cons (nv 5) da_nil))) (da_cons (kall h_law_tells hr (da_cons (nv 3) (da_cons (nv 5) da_nil))) da_nil))))) (dss_one (ds_ret de_bl)) dss_nil)))))))
    (dss_one (ds_ret (kall h_law_alike hr (da_cons (kall h_tells hr (da_cons (de_tup (da_cons de_int (da_cons de_int (da_cons de_int da_nil)))) (da_cons de_int da_nil))) (da_cons (de_tup (da_cons (de_tup (da_cons (de_neg de_int) (da_cons (de_neg de_int) da_nil))) (da_cons (de_tup (da_cons (de_neg de_int) (da_cons de_int da_nil))) (da_cons (de_tup (da_cons (de_neg de_int) (da_cons (de_neg de_int) da_nil))) (da_cons (de_tup (da_cons (de_neg de_int) (da_cons de_int da_nil))) (da_cons (de_tup (da_cons de_int (da_cons (de_neg de_int) da_nil))) (da_cons (de_tup (da_cons de_int (da_cons de_int da_nil))) (da_cons (de_tup (da_cons de_int (da_cons (de_neg de_int) da_nil))) (da_cons (de_tup (da_cons de_int (da_cons de_int da_nil))) da_nil))))))))) da_nil))))))) ok_law_k53
end
theorem all_mk {l : PySem.W.OpenLaw} {w : World} {K : PySem.W.Frag} {h : Heap} {mg : Str → Option Value} {fa : Addr} (X : K.In h) (G : h.Ns mainGlobals mg) (hfa : mg "law" = some (.ref fa))
    {f0 : Addr} {od0 an0 : Option Addr} {sl0 : Array (Option Value)} {oc0 kV0 dc0 pm0 cd0 ct0 : Value} (a0 : PySem.W.nsIn K mainGlobals "_law_draws" = some (some (.ref f0))) (l0 : K.lookup f0 = some ⟨oc0, od0, .func (PySem.W.fnOf "_law_draws" "_law_draws" (defArgs s_law_draws) (defBody s_law_draws) (defScope s_law_draws) .none kV0 dc0 pm0 an0 cd0 ct0), sl0⟩) (c0 : PySem.W.codeIn K cd0 "_law_draws" = true) (k0 : PySem.W.keepIn K (.ref f0) = true)
    {f1 : Addr} {od1 an1 : Option Addr} {sl1 : Array (Option Value)} {oc1 kV1 dc1 pm1 cd1 ct1 : Value} (a1 : PySem.W.nsIn K mainGlobals "_law_next" = some (some (.ref f1))) (l1 : K.lookup f1 = some ⟨oc1, od1, .func (PySem.W.fnOf "_law_next" "_law_next" (defArgs s_law_next) (defBody s_law_next) (defScope s_law_next) .none kV1 dc1 pm1 an1 cd1 ct1), sl1⟩) (c1 : PySem.W.codeIn K cd1 "_law_next" = true) (k1 : PySem.W.keepIn K (.ref f1) = true)
    {f2 : Addr} {od2 an2 : Option Addr} {sl2 : Array (Option Value)} {oc2 kV2 dc2 pm2 cd2 ct2 : Value} (a2 : PySem.W.nsIn K mainGlobals "_law_pick" = some (some (.ref f2))) (l2 : K.lookup f2 = some ⟨oc2, od2, .func (PySem.W.fnOf "_law_pick" "_law_pick" (defArgs s_law_pick) (defBody s_law_pick) (defScope s_law_pick) .none kV2 dc2 pm2 an2 cd2 ct2), sl2⟩) (c2 : PySem.W.codeIn K cd2 "_law_pick" = true) (k2 : PySem.W.keepIn K (.ref f2) = true)
    {f3 : Addr} {od3 an3 : Option Addr} {sl3 : Array (Option Value)} {oc3 kV3 dc3 pm3 cd3 ct3 : Value} (a3 : PySem.W.nsIn K mainGlobals "_law_common" = some (some (.ref f3))) (l3 : K.lookup f3 = some ⟨oc3, od3, .func (PySem.W.fnOf "_law_common" "_law_common" (defArgs s_law_common) (defBody s_law_common) (defScope s_law_common) .none kV3 dc3 pm3 an3 cd3 ct3), sl3⟩) (c3 : PySem.W.codeIn K cd3 "_law_common" = true) (k3 : PySem.W.keepIn K (.ref f3) = true)
    {f4 : Addr} {od4 an4 : Option Addr} {sl4 : Array (Option Value)} {oc4 kV4 dc4 pm4 cd4 ct4 : Value} (a4 : PySem.W.nsIn K mainGlobals "_law_all" = some (some (.ref f4))) (l4 : K.lookup f4 = some ⟨oc4, od4, .func (PySem.W.fnOf "_law_all" "_law_all" (defArgs s_law_all) (defBody s_law_all) (defScope s_law_all) .none kV4 dc4 pm4 an4 cd4 ct4), sl4⟩) (c4 : PySem.W.codeIn K cd4 "_law_all" = true) (k4 : PySem.W.keepIn K (.ref f4) = true)
    {f5 : Addr} {od5 an5 : Option Addr} {sl5 : Array (Option Value)} {oc5 kV5 dc5 pm5 cd5 ct5 : Value} (a5 : PySem.W.nsIn K mainGlobals "_law_d" = some (some (.ref f5))) (l5 : K.lookup f5 = some ⟨oc5, od5, .func (PySem.W.fnOf "_law_d" "_law_d" (defArgs s_law_d) (defBody s_law_d) (defScope s_law_d) .none kV5 dc5 pm5 an5 cd5 ct5), sl5⟩) (c5 : PySem.W.codeIn K cd5 "_law_d" = true) (k5 : PySem.W.keepIn K (.ref f5) = true)
    {f6 : Addr} {od6 an6 : Option Addr} {sl6 : Array (Option Value)} {oc6 kV6 dc6 pm6 cd6 ct6 : Value} (a6 : PySem.W.nsIn K mainGlobals "_law_changed" = some (some (.ref f6))) (l6 : K.lookup f6 = some ⟨oc6, od6, .func (PySem.W.fnOf "_law_changed" "_law_changed" (defArgs s_law_changed) (defBody s_law_changed) (defScope s_law_changed) .none kV6 dc6 pm6 an6 cd6 ct6), sl6⟩) (c6 : PySem.W.codeIn K cd6 "_law_changed" = true) (k6 : PySem.W.keepIn K (.ref f6) = true)
    {f7 : Addr} {od7 an7 : Option Addr} {sl7 : Array (Option Value)} {oc7 kV7 dc7 pm7 cd7 ct7 : Value} (a7 : PySem.W.nsIn K mainGlobals "_law_drawn" = some (some (.ref f7))) (l7 : K.lookup f7 = some ⟨oc7, od7, .func (PySem.W.fnOf "_law_drawn" "_law_drawn" (defArgs s_law_drawn) (defBody s_law_drawn) (defScope s_law_drawn) .none kV7 dc7 pm7 an7 cd7 ct7), sl7⟩) (c7 : PySem.W.codeIn K cd7 "_law_drawn" = true) (k7 : PySem.W.keepIn K (.ref f7) = true)
    {f8 : Addr} {od8 an8 : Option Addr} {sl8 : Array (Option Value)} {oc8 kV8 dc8 pm8 cd8 ct8 : Value} (a8 : PySem.W.nsIn K mainGlobals "_law_alike" = some (some (.ref f8))) (l8 : K.lookup f8 = some ⟨oc8, od8, .func (PySem.W.fnOf "_law_alike" "_law_alike" (defArgs s_law_alike) (defBody s_law_alike) (defScope s_law_alike) .none kV8 dc8 pm8 an8 cd8 ct8), sl8⟩) (c8 : PySem.W.codeIn K cd8 "_law_alike" = true) (k8 : PySem.W.keepIn K (.ref f8) = true)
    {f9 : Addr} {od9 an9 : Option Addr} {sl9 : Array (Option Value)} {oc9 kV9 dc9 pm9 cd9 ct9 : Value} (a9 : PySem.W.nsIn K mainGlobals "least_two" = some (some (.ref f9))) (l9 : K.lookup f9 = some ⟨oc9, od9, .func (PySem.W.fnOf "least_two" "least_two" (defArgs s_least_two) (defBody s_least_two) (defScope s_least_two) .none kV9 dc9 pm9 an9 cd9 ct9), sl9⟩) (c9 : PySem.W.codeIn K cd9 "least_two" = true) (k9 : PySem.W.keepIn K (.ref f9) = true)
    {f10 : Addr} {od10 an10 : Option Addr} {sl10 : Array (Option Value)} {oc10 kV10 dc10 pm10 cd10 ct10 : Value} (a10 : PySem.W.nsIn K mainGlobals "_law_least" = some (some (.ref f10))) (l10 : K.lookup f10 = some ⟨oc10, od10, .func (PySem.W.fnOf "_law_least" "_law_least" (defArgs s_law_least) (defBody s_law_least) (defScope s_law_least) .none kV10 dc10 pm10 an10 cd10 ct10), sl10⟩) (c10 : PySem.W.codeIn K cd10 "_law_least" = true) (k10 : PySem.W.keepIn K (.ref f10) = true)
    {f11 : Addr} {od11 an11 : Option Addr} {sl11 : Array (Option Value)} {oc11 kV11 dc11 pm11 cd11 ct11 : Value} (a11 : PySem.W.nsIn K mainGlobals "_law_below_nothing" = some (some (.ref f11))) (l11 : K.lookup f11 = some ⟨oc11, od11, .func (PySem.W.fnOf "_law_below_nothing" "_law_below_nothing" (defArgs s_law_below_nothing) (defBody s_law_below_nothing) (defScope s_law_below_nothing) .none kV11 dc11 pm11 an11 cd11 ct11), sl11⟩) (c11 : PySem.W.codeIn K cd11 "_law_below_nothing" = true) (k11 : PySem.W.keepIn K (.ref f11) = true)
    {f12 : Addr} {od12 an12 : Option Addr} {sl12 : Array (Option Value)} {oc12 kV12 dc12 pm12 cd12 ct12 : Value} (a12 : PySem.W.nsIn K mainGlobals "_law_tells" = some (some (.ref f12))) (l12 : K.lookup f12 = some ⟨oc12, od12, .func (PySem.W.fnOf "_law_tells" "_law_tells" (defArgs s_law_tells) (defBody s_law_tells) (defScope s_law_tells) .none kV12 dc12 pm12 an12 cd12 ct12), sl12⟩) (c12 : PySem.W.codeIn K cd12 "_law_tells" = true) (k12 : PySem.W.keepIn K (.ref f12) = true)
    {f13 : Addr} {od13 an13 : Option Addr} {sl13 : Array (Option Value)} {oc13 kV13 dc13 pm13 cd13 ct13 : Value} (a13 : PySem.W.nsIn K mainGlobals "size_of_two" = some (some (.ref f13))) (l13 : K.lookup f13 = some ⟨oc13, od13, .func (PySem.W.fnOf "size_of_two" "size_of_two" (defArgs s_size_of_two) (defBody s_size_of_two) (defScope s_size_of_two) .none kV13 dc13 pm13 an13 cd13 ct13), sl13⟩) (c13 : PySem.W.codeIn K cd13 "size_of_two" = true) (k13 : PySem.W.keepIn K (.ref f13) = true)
    {f14 : Addr} {od14 an14 : Option Addr} {sl14 : Array (Option Value)} {oc14 kV14 dc14 pm14 cd14 ct14 : Value} (a14 : PySem.W.nsIn K mainGlobals "root_of" = some (some (.ref f14))) (l14 : K.lookup f14 = some ⟨oc14, od14, .func (PySem.W.fnOf "root_of" "root_of" (defArgs s_root_of) (defBody s_root_of) (defScope s_root_of) .none kV14 dc14 pm14 an14 cd14 ct14), sl14⟩) (c14 : PySem.W.codeIn K cd14 "root_of" = true) (k14 : PySem.W.keepIn K (.ref f14) = true)
    {f15 : Addr} {od15 an15 : Option Addr} {sl15 : Array (Option Value)} {oc15 kV15 dc15 pm15 cd15 ct15 : Value} (a15 : PySem.W.nsIn K mainGlobals "roots_for" = some (some (.ref f15))) (l15 : K.lookup f15 = some ⟨oc15, od15, .func (PySem.W.fnOf "roots_for" "roots_for" (defArgs s_roots_for) (defBody s_roots_for) (defScope s_roots_for) .none kV15 dc15 pm15 an15 cd15 ct15), sl15⟩) (c15 : PySem.W.codeIn K cd15 "roots_for" = true) (k15 : PySem.W.keepIn K (.ref f15) = true)
    {f16 : Addr} {od16 an16 : Option Addr} {sl16 : Array (Option Value)} {oc16 kV16 dc16 pm16 cd16 ct16 : Value} (a16 : PySem.W.nsIn K mainGlobals "tells" = some (some (.ref f16))) (l16 : K.lookup f16 = some ⟨oc16, od16, .func (PySem.W.fnOf "tells" "tells" (defArgs s_tells) (defBody s_tells) (defScope s_tells) .none kV16 dc16 pm16 an16 cd16 ct16), sl16⟩) (c16 : PySem.W.codeIn K cd16 "tells" = true) (k16 : PySem.W.keepIn K (.ref f16) = true)
    {f17 : Addr} {od17 an17 : Option Addr} {sl17 : Array (Option Value)} {oc17 kV17 dc17 pm17 cd17 ct17 : Value} (a17 : PySem.W.nsIn K mainGlobals "law" = some (some (.ref f17))) (l17 : K.lookup f17 = some ⟨oc17, od17, .func (PySem.W.fnOf "law" "law" (defArgs s_law) (defBody s_law) (defScope s_law) .none kV17 dc17 pm17 an17 cd17 ct17), sl17⟩) (c17 : PySem.W.codeIn K cd17 "law" = true) (k17 : PySem.W.keepIn K (.ref f17) = true)
    (zlen : PySem.W.nsIn K mainGlobals "len" = some none)    (zrange : PySem.W.nsIn K mainGlobals "range" = some none)    (zint : PySem.W.nsIn K mainGlobals "int" = some none)    (zabs : PySem.W.nsIn K mainGlobals "abs" = some none)    (zsorted : PySem.W.nsIn K mainGlobals "sorted" = some none)    (zisinstance : PySem.W.nsIn K mainGlobals "isinstance" = some none)    (ztuple : PySem.W.nsIn K mainGlobals "tuple" = some none)    (zbool : PySem.W.nsIn K mainGlobals "bool" = some none)    (zstr : PySem.W.nsIn K mainGlobals "str" = some none)    (zset : PySem.W.nsIn K mainGlobals "set" = some none) :
    ∃ fd : FuncData, (∀ (s : Shared) (v : Value), BindsTo s fd ⟨[v], []⟩ [("script", v)]) ∧ ∀ base : Heap, K.In base → base.Ns mainGlobals mg → FnOk l.prog w K mg base CX0 9 fa fd ["script"] (spLaw K) := by
  have e := hfa.symm.trans (PySem.W.mg_of X G a17)
  cases e
  have z_len := PySem.W.mg_none_of X G zlen
  have z_range := PySem.W.mg_none_of X G zrange
  have z_int := PySem.W.mg_none_of X G zint
  have z_abs := PySem.W.mg_none_of X G zabs
  have z_sorted := PySem.W.mg_none_of X G zsorted
  have z_isinstance := PySem.W.mg_none_of X G zisinstance
  have z_tuple := PySem.W.mg_none_of X G ztuple
  have z_bool := PySem.W.mg_none_of X G zbool
  have z_str := PySem.W.mg_none_of X G zstr
  have z_set := PySem.W.mg_none_of X G zset
  refine ⟨PySem.W.fnOf "law" "law" (defArgs s_law) (defBody s_law) (defScope s_law) .none kV17 dc17 pm17 an17 cd17 ct17, fun s v => .of_eq rfl, fun base _ _ => ?_⟩
  have F0 := fun_mk (st := s_law_draws) l0 c0 k0
  have b0 := F0.binds (ps := ["script", "many"]) fun _ _ _ _ _ _ us hl => match us, hl with | [_, _], _ => rfl
  have h_law_draws : Has l.prog w K mg base 1 "_law_draws" ["script", "many"] (liftSpS K 1 sp_draws) := ⟨f0, _, fn_law_draws F0 z_len z_range z_int z_abs, PySem.W.mg_of X G a0, k0, b0⟩
  have F1 := fun_mk (st := s_law_next) l1 c1 k1
  have b1 := F1.binds (ps := ["w", "many"]) fun _ _ _ _ _ _ us hl => match us, hl with | [_, _], _ => rfl
  have h_law_next : Has l.prog w K mg base 1 "_law_next" ["w", "many"] (liftSpW K 1 sp_next) := ⟨f1, _, fn_law_next F1 z_len z_int, PySem.W.mg_of X G a1, k1, b1⟩
  have F2 := fun_mk (st := s_law_pick) l2 c2 k2
  have b2 := F2.binds (ps := ["w", "rows"]) fun _ _ _ _ _ _ us hl => match us, hl with | [_, _], _ => rfl
  have h_law_pick : Has l.prog w K mg base 2 "_law_pick" ["w", "rows"] (liftSpW K 1 sp_law_pick) := ⟨f2, _, fn_law_pick F2 z_len h_law_next, PySem.W.mg_of X G a2, k2, b2⟩
  have F3 := fun_mk (st := s_law_common) l3 c3 k3
  have b3 := F3.binds (ps := ["a", "b"]) fun _ _ _ _ _ _ us hl => match us, hl with | [_, _], _ => rfl
  have h_law_common : Has l.prog w K mg base 1 "_law_common" ["a", "b"] (liftSp K 2 sp_law_common_v1) := ⟨f3, _, fn_law_common F3 z_abs z_int, PySem.W.mg_of X G a3, k3, b3⟩
  have F4 := fun_mk (st := s_law_all) l4 c4 k4
  have b4 := F4.binds (ps := ["d"]) fun _ _ _ _ _ _ us hl => match us, hl with | [_], _ => rfl
  have h_law_all : Has l.prog w K mg base 2 "_law_all" ["d"] (liftSp K 1 sp_law_all) := ⟨f4, _, fn_law_all F4 z_range z_int z_sorted h_law_common, PySem.W.mg_of X G a4, k4, b4⟩
  have F5 := fun_mk (st := s_law_d) l5 c5 k5
  have b5 := F5.binds (ps := ["w"]) fun _ _ _ _ _ _ us hl => match us, hl with | [_], _ => rfl
  have h_law_d : Has l.prog w K mg base 3 "_law_d" ["w"] (liftSpW K 0 sp_law_d) := ⟨f5, _, fn_law_d F5 h_law_pick, PySem.W.mg_of X G a5, k5, b5⟩
  have F6 := fun_mk (st := s_law_changed) l6 c6 k6
  have b6 := F6.binds (ps := ["form", "turn"]) fun _ _ _ _ _ _ us hl => match us, hl with | [_, _], _ => rfl
  have h_law_changed : Has l.prog w K mg base 1 "_law_changed" ["form", "turn"] (liftSp K 2 sp_law_changed) := ⟨f6, _, fn_law_changed F6 , PySem.W.mg_of X G a6, k6, b6⟩
  have F7 := fun_mk (st := s_law_drawn) l7 c7 k7
  have b7 := F7.binds (ps := ["w", "form"]) fun _ _ _ _ _ _ us hl => match us, hl with | [_, _], _ => rfl
  have h_law_drawn : Has l.prog w K mg base 3 "_law_drawn" ["w", "form"] (liftSpW K 1 sp_law_drawn_v2) := ⟨f7, _, fn_law_drawn F7 z_range h_law_next h_law_changed h_law_pick, PySem.W.mg_of X G a7, k7, b7⟩
  have F8 := fun_mk (st := s_law_alike) l8 c8 k8
  have b8 := F8.binds (ps := ["told", "due"]) fun _ _ _ _ _ _ us hl => match us, hl with | [_, _], _ => rfl
  have h_law_alike : Has l.prog w K mg base 8 "_law_alike" ["told", "due"] (liftSp K 2 sp_law_alike) := ⟨f8, _, fn_law_alike F8 b8 (PySem.W.mg_of X G a8) k8 z_isinstance z_tuple z_len z_range z_bool z_int z_str 8, PySem.W.mg_of X G a8, k8, b8⟩
  have F9 := fun_mk (st := s_least_two) l9 c9 k9
  have b9 := F9.binds (ps := ["form"]) fun _ _ _ _ _ _ us hl => match us, hl with | [_], _ => rfl
  have h_least_two : Has l.prog w K mg base 1 "least_two" ["form"] (liftSp K 1 sp_least_two) := ⟨f9, _, fn_least_two F9 , PySem.W.mg_of X G a9, k9, b9⟩
  have F10 := fun_mk (st := s_law_least) l10 c10 k10
  have b10 := F10.binds (ps := ["form"]) fun _ _ _ _ _ _ us hl => match us, hl with | [_], _ => rfl
  have h_law_least : Has l.prog w K mg base 1 "_law_least" ["form"] (liftSp K 1 sp_law_least) := ⟨f10, _, fn_law_least F10 , PySem.W.mg_of X G a10, k10, b10⟩
  have F11 := fun_mk (st := s_law_below_nothing) l11 c11 k11
  have b11 := F11.binds (ps := ["form"]) fun _ _ _ _ _ _ us hl => match us, hl with | [_], _ => rfl
  have h_law_below_nothing : Has l.prog w K mg base 1 "_law_below_nothing" ["form"] (liftSp K 1 sp_law_below_nothing) := ⟨f11, _, fn_law_below_nothing F11 , PySem.W.mg_of X G a11, k11, b11⟩
  have F12 := fun_mk (st := s_law_tells) l12 c12 k12
  have b12 := F12.binds (ps := ["form", "n"]) fun _ _ _ _ _ _ us hl => match us, hl with | [_, _], _ => rfl
  have h_law_tells : Has l.prog w K mg base 2 "_law_tells" ["form", "n"] (liftSp K 2 sp_law_tells) := ⟨f12, _, fn_law_tells F12 z_sorted z_tuple h_law_below_nothing, PySem.W.mg_of X G a12, k12, b12⟩
  have F13 := fun_mk (st := s_size_of_two) l13 c13 k13
  have b13 := F13.binds (ps := ["form"]) fun _ _ _ _ _ _ us hl => match us, hl with | [_], _ => rfl
  have h_size_of_two : Has l.prog w K mg base 1 "size_of_two" ["form"] (liftSp K 1 sp_size_of_two) := ⟨f13, _, fn_size_of_two F13 , PySem.W.mg_of X G a13, k13, b13⟩
  have F14 := fun_mk (st := s_root_of) l14 c14 k14
  have b14 := F14.binds (ps := ["n"]) fun _ _ _ _ _ _ us hl => match us, hl with | [_], _ => rfl
  have h_root_of : Has l.prog w K mg base 1 "root_of" ["n"] (liftSp K 1 sp_root_of) := ⟨f14, _, fn_root_of F14 , PySem.W.mg_of X G a14, k14, b14⟩
  have F15 := fun_mk (st := s_roots_for) l15 c15 k15
  have b15 := F15.binds (ps := ["a", "b", "c"]) fun _ _ _ _ _ _ us hl => match us, hl with | [_, _, _], _ => rfl
  have h_roots_for : Has l.prog w K mg base 2 "roots_for" ["a", "b", "c"] (liftSp K 3 sp_roots_for) := ⟨f15, _, fn_roots_for F15 z_sorted z_set h_root_of, PySem.W.mg_of X G a15, k15, b15⟩
  have F16 := fun_mk (st := s_tells) l16 c16 k16
  have b16 := F16.binds (ps := ["form", "n"]) fun _ _ _ _ _ _ us hl => match us, hl with | [_, _], _ => rfl
  have h_tells : Has l.prog w K mg base 3 "tells" ["form", "n"] (liftSp K 2 sp_tells) := ⟨f16, _, fn_tells F16 z_sorted z_tuple h_size_of_two h_roots_for, PySem.W.mg_of X G a16, k16, b16⟩
  have F17 := fun_mk (st := s_law) l17 c17 k17
  exact fn_law F17 z_range h_law_draws h_law_pick h_law_all h_law_d h_law_drawn h_law_alike h_least_two h_law_least h_law_next h_law_tells h_tells
theorem walk {l : PySem.W.OpenLaw} {q : Program} {loose : List Str} {XP : (Str → Option Value) → Heap → Prop} {YP : World → Heap → Prop} {d : DefRec} {K : Params → PySem.W.Frag} (hn : l.most = some 63) (hdf : d.params.defaults = [])
    (hY : ∀ (w : World) (h : Heap), YP w h → (K w.params).In h)
    (F : ∀ (w : World) (mg : Str → Option Value) (fa : Addr) (h : Heap), (K w.params).In h → h.Ns mainGlobals mg → mg d.name = some (.ref fa) →
      ∃ fd : FuncData, (∀ (s : Shared) (u : Value), BindsTo s fd ⟨[u], []⟩ [("script", u)]) ∧ ∀ base : Heap, (K w.params).In base → base.Ns mainGlobals mg → FnOk l.prog w (K w.params) mg base CX0 9 fa fd ["script"] (spLaw (K w.params))) :
    PySem.W.WalkO q loose XP YP l.row.toRowW d [] (fun f vs => PySem.call f vs) :=
  L2.walk_of (n := 63) (k := 9) (x := "script") (CX := fun _ => CX0) (sp := fun w => spLaw (K w.params)) hn (by decide) hdf ⟨rfl, by decide, by decide⟩ hY F (fun _ _ a ns hl _ hS => ⟨a, ns, rfl, hS, hl, fun _ => rfl⟩) fun _ _ _ _ _ z => z
end Lay
open PySem PySem.W PyProof.Rows
set_option maxRecDepth 100000 in
set_option maxHeartbeats 0 in
theorem PySem.Challenge.cw_placewise_k53_least_forms_of_two_letters_holds : PySem.Challenge.rw_placewise_k53_least_forms_of_two_letters.Holds := by
  w_on; o_law; k_head; (case hw => w_witness2)
  k_fill
  refine Lay.walk (l := PySem.Challenge.rw_placewise_k53_least_forms_of_two_letters) rfl rfl (fun w h Y => PySem.W.kIn_of Y) ?F
  case F =>
    intro w mg fa h KX G hmg
    refine' Lay.all_mk KX G hmg ?a0 ?l0 ?c0 ?k0 ?a1 ?l1 ?c1 ?k1 ?a2 ?l2 ?c2 ?k2 ?a3 ?l3 ?c3 ?k3 ?a4 ?l4 ?c4 ?k4 ?a5 ?l5 ?c5 ?k5 ?a6 ?l6 ?c6 ?k6 ?a7 ?l7 ?c7 ?k7 ?a8 ?l8 ?c8 ?k8 ?a9 ?l9 ?c9 ?k9 ?a10 ?l10 ?c10 ?k10 ?a11 ?l11 ?c11 ?k11 ?a12 ?l12 ?c12 ?k12 ?a13 ?l13 ?c13 ?k13 ?a14 ?l14 ?c14 ?k14 ?a15 ?l15 ?c15 ?k15 ?a16 ?l16 ?c16 ?k16 ?a17 ?l17 ?c17 ?k17 ?zlen ?zrange ?zint ?zabs ?zsorted ?zisinstance ?ztuple ?zbool ?zstr ?zset
    (case a0 => k_is); (case l0 => k_is); (case c0 => k_is); (case k0 => k_is)
    (case a1 => k_is); (case l1 => k_is); (case c1 => k_is); (case k1 => k_is)
    (case a2 => k_is); (case l2 => k_is); (case c2 => k_is); (case k2 => k_is)
    (case a3 => k_is); (case l3 => k_is); (case c3 => k_is); (case k3 => k_is)
    (case a4 => k_is); (case l4 => k_is); (case c4 => k_is); (case k4 => k_is)
    (case a5 => k_is); (case l5 => k_is); (case c5 => k_is); (case k5 => k_is)
    (case a6 => k_is); (case l6 => k_is); (case c6 => k_is); (case k6 => k_is)
    (case a7 => k_is); (case l7 => k_is); (case c7 => k_is); (case k7 => k_is)
    (case a8 => k_is); (case l8 => k_is); (case c8 => k_is); (case k8 => k_is)
    (case a9 => k_is); (case l9 => k_is); (case c9 => k_is); (case k9 => k_is)
    (case a10 => k_is); (case l10 => k_is); (case c10 => k_is); (case k10 => k_is)
    (case a11 => k_is); (case l11 => k_is); (case c11 => k_is); (case k11 => k_is)
    (case a12 => k_is); (case l12 => k_is); (case c12 => k_is); (case k12 => k_is)
    (case a13 => k_is); (case l13 => k_is); (case c13 => k_is); (case k13 => k_is)
    (case a14 => k_is); (case l14 => k_is); (case c14 => k_is); (case k14 => k_is)
    (case a15 => k_is); (case l15 => k_is); (case c15 => k_is); (case k15 => k_is)
    (case a16 => k_is); (case l16 => k_is); (case c16 => k_is); (case k16 => k_is)
    (case a17 => k_is); (case l17 => k_is); (case c17 => k_is); (case k17 => k_is)
    (case zlen => k_is)
    (case zrange => k_is)
    (case zint => k_is)
    (case zabs => k_is)
    (case zsorted => k_is)
    (case zisinstance => k_is)
    (case ztuple => k_is)
    (case zbool => k_is)
    (case zstr => k_is)
    (case zset => k_is)
