import PyProof.Rows.All
import Wide.All
import OpenK.AllK
import Wide.FinOn
import HandS.ForMost
import HandS.IsInst
import HandS.TupAny
import HandS.Wide
import HandS.WideBits
import HandS.Zip
import HandS.Gcd
import HandS.Walk
import HandS.Defaults
import KE.KStateDown
import Lean
import HandS.Base
import HandS.Call
import HandS.Ends
import HandS.More
import HandS.Words
import HandS.WordsExc
import HandS.Head0
import HandS.Head1
import HandS.Head2
import HandS.HeadEnd
import HandS.HeadHook1
import HandS.HeadHook2
import PySem.Challenge.RW_calledloose_k41_closings
set_option Elab.async false
set_option linter.all false
set_option maxRecDepth 100000
set_option maxHeartbeats 4000000
/-! A layer over plain data: what an expression, a statement, a def does is told by predicates over PyData, no heap in sight. -/
namespace Zd
open PySem PySem.Spec PyProof.Rows L2

abbrev D := PyData
/-- what a slot holds: nothing known, data, a list of the def's own that may grow, the law's drawing thing -/
inductive Sl where
  | un
  | da (d : D)
  | ow (ds : List D)
  | ja
structure Jr where
  is : List Addr → V → Hp → Prop
  loc : ∀ {as v H H'}, (∀ a ∈ as, H' a = H a) → is as v H → is as v H'
  dom : ∀ {as v H}, is as v H → ∀ a ∈ as, H a ≠ none
  pin : Option (Nat × Addr) := none
/-- the entry: the heap, the part of it that is data, the drawing thing's cells and value -/
structure En where
  He : Hp
  H0 : Hp
  as : List Addr
  jv : V

theorem same_up {H : Hp} {p : Addr} {o : HO} (h : H p = none) : Same H (upd H p o) := fun b x e => by
  rw [upd_ne (ne_of_none e h)]
  exact e
theorem same_up2 {H G : Hp} {p : Addr} {o : HO} (e : Same H G) : Same (upd H p o) (upd G p o) := fun b x h => by
  by_cases q : b = p
  · subst q; rw [upd_same] at h ⊢; exact h
  · rw [upd_ne q] at h ⊢; exact e b x h
theorem same_t {K : PySem.W.Frag} {H H' : Hp} {a : Addr} {xs : List V} (e : Same H H') (h : SqT K H a xs) : SqT K H' a xs := by
  rcases h with (h | ⟨o, h⟩) | h
  · exact .inl (.inl (e _ _ h))
  · exact .inl (.inr ⟨o, e _ _ h⟩)
  · exact .inr h
mutual
/-- data as it stands in a heap -/
inductive Dq (K : PySem.W.Frag) (H : Hp) : V → PyData → Prop
  | non : Dq K H .non .none
  | bl (b : Bool) : Dq K H (.bl b) (.bool b)
  | int (i : Int) : Dq K H (.int i) (.int i)
  | str (x : Str) : Dq K H (.str x) (.str x)
  | lst {p : Addr} {vs : List V} {ds : List PyData} (h : SqL K H p vs) (hd : DqAll K H vs ds) : Dq K H (.ref p) (.list ds)
  | tup {p : Addr} {vs : List V} {ds : List PyData} (h : SqT K H p vs) (hd : DqAll K H vs ds) : Dq K H (.ref p) (.tuple ds)
inductive DqAll (K : PySem.W.Frag) (H : Hp) : List V → List PyData → Prop
  | nil : DqAll K H [] []
  | cons {x : V} {xs : List V} {d : PyData} {ds : List PyData} (h : Dq K H x d) (t : DqAll K H xs ds) : DqAll K H (x :: xs) (d :: ds)
end
mutual
theorem dq_dp {K : PySem.W.Frag} {H : Hp} : ∀ (d : PyData) (v : V), Dq K H v d → L2.Dp K H v d
  | .none, _, h => by cases h; exact .non
  | .bool _, _, h => by cases h; exact .bl _
  | .int _, _, h => by cases h; exact .int _
  | .str _, _, h => by cases h; exact .str _
  | .list ds, _, h => by cases h with | lst hs ha => exact .lst hs (dqa_dp ds _ ha)
  | .tuple ds, _, h => by cases h with | tup hs ha => exact .tup hs (dqa_dp ds _ ha)
  | .dict _, _, h => by cases h
theorem dqa_dp {K : PySem.W.Frag} {H : Hp} : ∀ (ds : List PyData) (vs : List V), DqAll K H vs ds → L2.DpAll K H vs ds
  | [], _, h => by cases h; exact .nil
  | d :: ds, _, h => by cases h with | cons h1 h2 => exact .cons (dq_dp d _ h1) (dqa_dp ds _ h2)
end
mutual
theorem dp_mono {K : PySem.W.Frag} {H H' : Hp} (e : Same H H') : ∀ (d : PyData) (v : V), Dq K H v d → Dq K H' v d
  | .none, _, h => by cases h; exact .non
  | .bool _, _, h => by cases h; exact .bl _
  | .int _, _, h => by cases h; exact .int _
  | .str _, _, h => by cases h; exact .str _
  | .list ds, _, h => by cases h with | lst hs ha => exact .lst (e.seq hs) (dpa_mono e ds _ ha)
  | .tuple ds, _, h => by cases h with | tup hs ha => exact .tup (same_t e hs) (dpa_mono e ds _ ha)
  | .dict _, _, h => by cases h
theorem dpa_mono {K : PySem.W.Frag} {H H' : Hp} (e : Same H H') : ∀ (ds : List PyData) (vs : List V), DqAll K H vs ds → DqAll K H' vs ds
  | [], _, h => by cases h; exact .nil
  | d :: ds, _, h => by cases h with | cons h1 h2 => exact .cons (dp_mono e d _ h1) (dpa_mono e ds _ h2)
end
theorem dpa_len {K : PySem.W.Frag} {H : Hp} : ∀ {ds : List PyData} {vs : List V}, DqAll K H vs ds → vs.length = ds.length
  | [], _, h => by cases h; rfl
  | d :: ds, _, h => by cases h with | cons h1 h2 => rw [List.length_cons, List.length_cons, dpa_len h2]
theorem dpa_get {K : PySem.W.Frag} {H : Hp} : ∀ {ds : List PyData} {vs : List V} {i : Nat} {x : V}, DqAll K H vs ds → vs[i]? = some x → ∃ d, ds[i]? = some d ∧ Dq K H x d
  | [], _, _, _, h, e => by cases h; simp at e
  | d :: ds, _, 0, x, h, e => by
    cases h with
    | cons h1 h2 =>
      have q := Option.some.inj e
      subst q
      exact ⟨d, rfl, h1⟩
  | d :: ds, _, i + 1, x, h, e => by
    cases h with
    | cons h1 h2 => exact dpa_get (i := i) h2 e
theorem dpa_get' {K : PySem.W.Frag} {H : Hp} : ∀ {ds : List PyData} {vs : List V} {i : Nat} {d : D}, DqAll K H vs ds → ds[i]? = some d → ∃ x, vs[i]? = some x ∧ Dq K H x d
  | [], _, _, _, h, e => by simp at e
  | d :: ds, _, 0, x, h, e => by
    cases h with
    | cons h1 h2 =>
      have q := Option.some.inj e
      subst q
      exact ⟨_, rfl, h1⟩
  | d :: ds, _, i + 1, x, h, e => by
    cases h with
    | cons h1 h2 => exact dpa_get' (i := i) h2 e
theorem dpa_app {K : PySem.W.Frag} {H : Hp} : ∀ {ds es : List PyData} {vs us : List V}, DqAll K H vs ds → DqAll K H us es → DqAll K H (vs ++ us) (ds ++ es)
  | [], _, _, _, h, k => by cases h; exact k
  | d :: ds, _, _, _, h, k => by cases h with | cons h1 h2 => exact .cons h1 (dpa_app h2 k)
theorem dpa_one {K : PySem.W.Frag} {H : Hp} {v : V} {d : D} (h : Dq K H v d) : DqAll K H [v] [d] := .cons h .nil
theorem dpa_take {K : PySem.W.Frag} {H : Hp} : ∀ {ds : List PyData} {vs : List V} (n : Nat), DqAll K H vs ds → DqAll K H (vs.take n) (ds.take n)
  | _, _, 0, _ => .nil
  | [], _, _ + 1, h => by cases h; exact .nil
  | _ :: _, _, n + 1, h => by cases h with | cons h1 h2 => exact .cons h1 (dpa_take n h2)
theorem dpa_drop {K : PySem.W.Frag} {H : Hp} : ∀ {ds : List PyData} {vs : List V} (n : Nat), DqAll K H vs ds → DqAll K H (vs.drop n) (ds.drop n)
  | _, _, 0, h => h
  | [], _, _ + 1, h => by cases h; exact .nil
  | _ :: _, _, n + 1, h => by cases h with | cons h1 h2 => exact dpa_drop n h2
theorem dp_int {K : PySem.W.Frag} {H : Hp} {v : V} {i : Int} (h : Dq K H v (.int i)) : v = .int i := by cases h; rfl
theorem dp_bool {K : PySem.W.Frag} {H : Hp} {v : V} {i : Bool} (h : Dq K H v (.bool i)) : v = .bl i := by cases h; rfl
theorem dp_str {K : PySem.W.Frag} {H : Hp} {v : V} {i : Str} (h : Dq K H v (.str i)) : v = .str i := by cases h; rfl
theorem dp_none {K : PySem.W.Frag} {H : Hp} {v : V} (h : Dq K H v .none) : v = .non := by cases h; rfl
theorem dp_tup {K : PySem.W.Frag} {H : Hp} {v : V} {ds : List D} (h : Dq K H v (.tuple ds)) : ∃ a xs, v = .ref a ∧ SqT K H a xs ∧ DqAll K H xs ds := by cases h with | tup h1 h2 => exact ⟨_, _, rfl, h1, h2⟩
theorem dp_lst {K : PySem.W.Frag} {H : Hp} {v : V} {ds : List D} (h : Dq K H v (.list ds)) : ∃ a xs, v = .ref a ∧ SqL K H a xs ∧ DqAll K H xs ds := by cases h with | lst h1 h2 => exact ⟨_, _, rfl, h1, h2⟩

def SlOk (K : PySem.W.Frag) (n : En) (σ : L2.St) (H H0 : Hp) (i : Nat) : Sl → Prop
  | .un => True
  | .da d => ∃ v, σ[i]? = some (some v) ∧ Dq K H0 v d
  | .ow ds => ∃ a xs, σ[i]? = some (some (.ref a)) ∧ H a = some (.lst xs) ∧ DqAll K H0 xs ds ∧ H0 a = none ∧ n.He a = none
  | .ja => σ[i]? = some (some n.jv) ∧ n.as ≠ []
structure Rp (K : PySem.W.Frag) (J : Jr) (n : En) (σ : L2.St) (H H0 : Hp) (ρ : List Sl) : Prop where
  len : σ.length = ρ.length
  sub : Same H0 H
  sl : ∀ i s, ρ[i]? = some s → SlOk K n σ H H0 i s
  sep : ∀ (i j : Nat) (ds es : List D), i ≠ j → ρ[i]? = some (Sl.ow ds) → ρ[j]? = some (Sl.ow es) → σ[i]? ≠ σ[j]?
  fr : ∀ a o, a ∉ n.as → n.He a = some o → H a = some o
  base : Same n.H0 H0
  fresh : ∀ a, n.H0 a = none → n.He a ≠ none → H0 a = none
  jar : n.as ≠ [] → J.is n.as n.jv H
  jdom : ∀ a ∈ n.as, n.H0 a = none ∧ n.He a ≠ none
  pin : ∀ i p, J.pin = some (i, p) → ∀ ds, ρ[i]? = some (Sl.ow ds) → σ[i]? = some (some (V.ref p))
/-- a result: data, or a new list that nothing else knows -/
def ResOk (K : PySem.W.Frag) (n : En) (σ : L2.St) (ρ : List Sl) (H H0 : Hp) (v : V) : Sl → Prop
  | .da d => Dq K H0 v d
  | .ow ds => ∃ a xs, v = .ref a ∧ H a = some (.lst xs) ∧ DqAll K H0 xs ds ∧ H0 a = none ∧ n.He a = none ∧ ∀ (i : Nat) (es : List D), ρ[i]? = some (Sl.ow es) → σ[i]? ≠ some (some (V.ref a))
  | _ => False
def RetOk (K : PySem.W.Frag) (J : Jr) (n : En) (H : Hp) (v : V) (r : Sl) : Prop :=
  ∃ H0, Same H0 H ∧ (∀ a o, a ∉ n.as → n.He a = some o → H a = some o) ∧ Same n.H0 H0 ∧ (∀ a, n.H0 a = none → n.He a ≠ none → H0 a = none) ∧ (n.as ≠ [] → J.is n.as n.jv H) ∧ ResOk K n [] [] H H0 v r

section
variable {K : PySem.W.Frag} {J : Jr} {n : En} {σ : L2.St} {H H0 : Hp} {ρ : List Sl} {v : V} {r : Sl}
theorem Rp.hej (R : Rp K J n σ H H0 ρ) {a : Addr} (h : n.He a ≠ none) : H a ≠ none := by
  by_cases q : a ∈ n.as
  · exact J.dom (R.jar (by intro e; rw [e] at q; cases q)) a q
  · cases e : n.He a with
    | none => exact absurd e h
    | some o => rw [R.fr a o q e]; intro z; cases z
theorem Rp.he0 (R : Rp K J n σ H H0 ρ) {a : Addr} (h : H a = none) : n.He a = none := by
  cases e : n.He a with
  | none => rfl
  | some o => exact absurd h (R.hej (by rw [e]; intro z; cases z))
theorem Rp.h0 (R : Rp K J n σ H H0 ρ) {a : Addr} (h : H a = none) : H0 a = none := R.sub.free h
theorem Rp.jh0 (R : Rp K J n σ H H0 ρ) {a : Addr} (h : a ∈ n.as) : H0 a = none := R.fresh a (R.jdom a h).1 (R.jdom a h).2
/-- a new object that is data -/
theorem Rp.alloc (R : Rp K J n σ H H0 ρ) {p : Addr} {o : HO} (h : H p = none) : Rp K J n σ (upd H p o) (upd H0 p o) ρ where
  len := R.len
  sub := same_up2 R.sub
  sl := fun i s e => by
    have q := R.sl i s e
    cases s with
    | un => trivial
    | da d =>
      obtain ⟨v, h1, h2⟩ := q
      exact ⟨v, h1, dp_mono (same_up (R.h0 h)) d v h2⟩
    | ow ds =>
      obtain ⟨a, xs, h1, h2, h3, h4, h5⟩ := q
      have np : a ≠ p := ne_of_none h2 h
      exact ⟨a, xs, h1, by rw [upd_ne np]; exact h2, dpa_mono (same_up (R.h0 h)) ds xs h3, by rw [upd_ne np]; exact h4, h5⟩
    | ja => exact q
  sep := R.sep
  fr := fun a u ha e => by rw [upd_ne (ne_of_none (R.fr a u ha e) h)]; exact R.fr a u ha e
  base := R.base.trans (same_up (R.h0 h))
  fresh := fun a h1 h2 => by
    have np : a ≠ p := fun q => (R.hej h2) (by rw [q]; exact h)
    rw [upd_ne np]
    exact R.fresh a h1 h2
  jar := fun q => J.loc (fun a ha => upd_ne (ne_of_none (o := (H a).get (Option.isSome_iff_ne_none.mpr (J.dom (R.jar q) a ha))) (Option.some_get _).symm h)) (R.jar q)
  jdom := R.jdom
  pin := R.pin
/-- a new object that is not data (so far) -/
theorem Rp.laid (R : Rp K J n σ H H0 ρ) {p : Addr} {o : HO} (h : H p = none) : Rp K J n σ (upd H p o) H0 ρ where
  len := R.len
  sub := R.sub.trans (same_up h)
  sl := fun i s e => by
    have q := R.sl i s e
    cases s with
    | un => trivial
    | da d => exact q
    | ow ds =>
      obtain ⟨a, xs, h1, h2, h3, h4, h5⟩ := q
      exact ⟨a, xs, h1, by rw [upd_ne (ne_of_none h2 h)]; exact h2, h3, h4, h5⟩
    | ja => exact q
  sep := R.sep
  fr := fun a u ha e => by rw [upd_ne (ne_of_none (R.fr a u ha e) h)]; exact R.fr a u ha e
  base := R.base
  fresh := R.fresh
  jar := fun q => J.loc (fun a ha => upd_ne (ne_of_none (o := (H a).get (Option.isSome_iff_ne_none.mpr (J.dom (R.jar q) a ha))) (Option.some_get _).symm h)) (R.jar q)
  jdom := R.jdom
  pin := R.pin
/-- a new list becomes data -/
theorem Rp.freeze (R : Rp K J n σ H H0 ρ) {a : Addr} {xs : List V} (h : H a = some (.lst xs)) (h0 : H0 a = none) (he : n.He a = none) (hs : ∀ (i : Nat) (es : List D), ρ[i]? = some (Sl.ow es) → σ[i]? ≠ some (some (V.ref a))) :
    Rp K J n σ H (upd H0 a (.lst xs)) ρ where
  len := R.len
  sub := fun b o e => by
    by_cases q : b = a
    · subst q; rw [upd_same] at e; rw [h]; exact e
    · rw [upd_ne q] at e; exact R.sub b o e
  sl := fun i s e => by
    have q := R.sl i s e
    cases s with
    | un => trivial
    | da d =>
      obtain ⟨v, h1, h2⟩ := q
      exact ⟨v, h1, dp_mono (same_up h0) d v h2⟩
    | ow ds =>
      obtain ⟨b, ys, h1, h2, h3, h4, h5⟩ := q
      have np : b ≠ a := fun z => hs i ds e (by rw [h1, z])
      exact ⟨b, ys, h1, h2, dpa_mono (same_up h0) ds ys h3, by rw [upd_ne np]; exact h4, h5⟩
    | ja => exact q
  sep := R.sep
  fr := R.fr
  base := R.base.trans (same_up h0)
  fresh := fun b h1 h2 => by
    have np : b ≠ a := fun z => h2 (by rw [z]; exact he)
    rw [upd_ne np]
    exact R.fresh b h1 h2
  jar := R.jar
  jdom := R.jdom
  pin := R.pin
theorem get_set {α : Type} {l : List α} {i j : Nat} {x : α} : (l.set i x)[j]? = if i = j then (if i < l.length then some x else none) else l[j]? := List.getElem?_set
/-- a store of data -/
theorem Rp.set_da (R : Rp K J n σ H H0 ρ) {i : Nat} {d : D} (h : Dq K H0 v d) : Rp K J n (σ.set i (some v)) H H0 (ρ.set i (.da d)) where
  len := by rw [List.length_set, List.length_set]; exact R.len
  sub := R.sub
  sl := fun j s e => by
    rw [get_set] at e
    by_cases q : i = j
    · rw [if_pos q] at e
      by_cases l : i < ρ.length
      · rw [if_pos l] at e
        have z := Option.some.inj e
        subst z
        refine ⟨v, ?_, h⟩
        rw [get_set, if_pos q, if_pos (by rw [R.len]; exact l)]
      · rw [if_neg l] at e; cases e
    · rw [if_neg q] at e
      have z := R.sl j s e
      have g : (σ.set i (some v))[j]? = σ[j]? := by rw [get_set, if_neg q]
      cases s with
      | un => trivial
      | da d' => obtain ⟨u, h1, h2⟩ := z; exact ⟨u, by rw [g]; exact h1, h2⟩
      | ow ds => obtain ⟨a, xs, h1, h2⟩ := z; exact ⟨a, xs, by rw [g]; exact h1, h2⟩
      | ja => exact ⟨by rw [g]; exact z.1, z.2⟩
  sep := fun j k ds es hn e1 e2 => by
    rw [get_set] at e1 e2
    have n1 : i ≠ j := fun q => by
      rw [if_pos q] at e1
      split at e1 <;> cases e1
    have n2 : i ≠ k := fun q => by
      rw [if_pos q] at e2
      split at e2 <;> cases e2
    rw [if_neg n1] at e1
    rw [if_neg n2] at e2
    rw [get_set, get_set, if_neg n1, if_neg n2]
    exact R.sep j k ds es hn e1 e2
  fr := R.fr
  base := R.base
  fresh := R.fresh
  jar := R.jar
  jdom := R.jdom
  pin := fun k p hk es e => by
    rw [get_set] at e ⊢
    by_cases q : i = k
    · rw [if_pos q] at e
      split at e <;> cases e
    · rw [if_neg q] at e ⊢
      exact R.pin k p hk es e
/-- a slot of which nothing is known any more -/
theorem Rp.forget (R : Rp K J n σ H H0 ρ) (i : Nat) (x : Option V) : Rp K J n (σ.set i x) H H0 (ρ.set i .un) where
  len := by rw [List.length_set, List.length_set]; exact R.len
  sub := R.sub
  sl := fun j s e => by
    rw [get_set] at e
    by_cases q : i = j
    · rw [if_pos q] at e
      split at e
      · have z := Option.some.inj e
        subst z
        trivial
      · cases e
    · rw [if_neg q] at e
      have z := R.sl j s e
      have g : (σ.set i x)[j]? = σ[j]? := by rw [get_set, if_neg q]
      cases s with
      | un => trivial
      | da d' => obtain ⟨u, h1, h2⟩ := z; exact ⟨u, by rw [g]; exact h1, h2⟩
      | ow ds => obtain ⟨a, xs, h1, h2⟩ := z; exact ⟨a, xs, by rw [g]; exact h1, h2⟩
      | ja => exact ⟨by rw [g]; exact z.1, z.2⟩
  sep := fun j k ds es hn e1 e2 => by
    rw [get_set] at e1 e2
    have n1 : i ≠ j := fun q => by
      rw [if_pos q] at e1
      split at e1 <;> cases e1
    have n2 : i ≠ k := fun q => by
      rw [if_pos q] at e2
      split at e2 <;> cases e2
    rw [if_neg n1] at e1
    rw [if_neg n2] at e2
    rw [get_set, get_set, if_neg n1, if_neg n2]
    exact R.sep j k ds es hn e1 e2
  fr := R.fr
  base := R.base
  fresh := R.fresh
  jar := R.jar
  jdom := R.jdom
  pin := fun k p hk es e => by
    rw [get_set] at e ⊢
    by_cases q : i = k
    · rw [if_pos q] at e
      split at e <;> cases e
    · rw [if_neg q] at e ⊢
      exact R.pin k p hk es e
theorem set_get {α : Type} {l : List α} {i : Nat} {x : α} (h : l[i]? = some x) : l.set i x = l := by
  apply List.ext_getElem?
  intro j
  rw [get_set]
  by_cases q : i = j
  · subst q
    rw [if_pos rfl, if_pos (List.getElem?_eq_some_iff.mp h).1, h]
  · rw [if_neg q]
/-- the slot's own list is moved out -/
theorem Rp.drop (R : Rp K J n σ H H0 ρ) (i : Nat) : Rp K J n σ H H0 (ρ.set i .un) := by
  cases e : σ[i]? with
  | none =>
    have l : ¬ i < ρ.length := by
      have := List.getElem?_eq_none_iff.mp e
      have := R.len
      omega
    rw [List.set_eq_of_length_le (by omega)]
    exact R
  | some x =>
    have z := R.forget i x
    rw [set_get e] at z
    exact z
/-- a store of a new list -/
theorem Rp.set_ow (R : Rp K J n σ H H0 ρ) {i : Nat} {ds : List D} {a : Addr} {xs : List V} (h : H a = some (.lst xs)) (hd : DqAll K H0 xs ds) (h0 : H0 a = none) (he : n.He a = none) (hs : ∀ (j : Nat) (es : List D), ρ[j]? = some (Sl.ow es) → σ[j]? ≠ some (some (V.ref a))) (hp : ∀ p, J.pin = some (i, p) → a = p) :
    Rp K J n (σ.set i (some (.ref a))) H H0 (ρ.set i (.ow ds)) where
  len := by rw [List.length_set, List.length_set]; exact R.len
  sub := R.sub
  sl := fun j s e => by
    rw [get_set] at e
    by_cases q : i = j
    · rw [if_pos q] at e
      by_cases l : i < ρ.length
      · rw [if_pos l] at e
        have z := Option.some.inj e
        subst z
        refine ⟨a, xs, ?_, h, hd, h0, he⟩
        rw [get_set, if_pos q, if_pos (by rw [R.len]; exact l)]
      · rw [if_neg l] at e; cases e
    · rw [if_neg q] at e
      have z := R.sl j s e
      have g : (σ.set i (some (.ref a)))[j]? = σ[j]? := by rw [get_set, if_neg q]
      cases s with
      | un => trivial
      | da d' => obtain ⟨u, h1, h2⟩ := z; exact ⟨u, by rw [g]; exact h1, h2⟩
      | ow ds => obtain ⟨a, xs, h1, h2⟩ := z; exact ⟨a, xs, by rw [g]; exact h1, h2⟩
      | ja => exact ⟨by rw [g]; exact z.1, z.2⟩
  sep := fun j k ds es hn e1 e2 => by
    rw [get_set] at e1 e2
    rw [get_set, get_set]
    by_cases n1 : i = j
    · have n2 : ¬ i = k := fun q => hn (n1.symm.trans q)
      rw [if_pos n1] at e1 ⊢
      rw [if_neg n2] at e2 ⊢
      split at e1
      · rename_i l
        rw [if_pos (by rw [R.len]; exact l)]
        exact fun z => hs k es e2 z.symm
      · cases e1
    · rw [if_neg n1] at e1 ⊢
      by_cases n2 : i = k
      · rw [if_pos n2] at e2 ⊢
        split at e2
        · rename_i l
          rw [if_pos (by rw [R.len]; exact l)]
          exact fun z => hs j ds e1 z
        · cases e2
      · rw [if_neg n2] at e2 ⊢
        exact R.sep j k ds es hn e1 e2
  fr := R.fr
  base := R.base
  fresh := R.fresh
  jar := R.jar
  jdom := R.jdom
  pin := fun k p hk es e => by
    rw [get_set] at e ⊢
    by_cases q : i = k
    · rw [if_pos q] at e ⊢
      split at e
      · rename_i l
        rw [if_pos (by rw [R.len]; exact l), hp p (by rw [q]; exact hk)]
      · cases e
    · rw [if_neg q] at e ⊢
      exact R.pin k p hk es e
/-- the def's own list at slot i becomes another one -/
theorem Rp.own_put (R : Rp K J n σ H H0 ρ) {i : Nat} {ds es : List D} {a : Addr} {ys : List V} (e : ρ[i]? = some (.ow ds)) (hσ : σ[i]? = some (some (.ref a))) (hd : DqAll K H0 ys es) :
    Rp K J n σ (upd H a (.lst ys)) H0 (ρ.set i (.ow es)) := by
  obtain ⟨b, xs, h1, h2, h3, h4, h5⟩ := R.sl i _ e
  have q : b = a := by
    rw [h1] at hσ
    cases hσ
    rfl
  subst q
  have R1 : Rp K J n σ (upd H b (.lst ys)) H0 (ρ.set i .un) := by
    have D := R.drop i
    refine ⟨D.len, fun c o z => ?_, fun j s z => ?_, D.sep, fun c o hc z => ?_, D.base, D.fresh, fun z => ?_, D.jdom, D.pin⟩
    · have nb : c ≠ b := ne_of_none z h4
      rw [upd_ne nb]
      exact D.sub c o z
    · have w := D.sl j s z
      cases s with
      | un => trivial
      | da d => exact w
      | ow cs =>
        obtain ⟨c, zs, w1, w2, w3, w4, w5⟩ := w
        have nb : c ≠ b := fun t => by
          rw [get_set] at z
          by_cases ij : i = j
          · rw [if_pos ij] at z
            split at z <;> cases z
          · rw [if_neg ij] at z
            exact R.sep i j ds cs ij e z (by rw [h1, w1, t])
        exact ⟨c, zs, w1, by rw [upd_ne nb]; exact w2, w3, w4, w5⟩
      | ja => exact w
    · have nb : c ≠ b := ne_of_none z h5
      rw [upd_ne nb]
      exact D.fr c o hc z
    · exact J.loc (fun c hc => upd_ne (fun t => (R.jdom c hc).2 (by rw [t]; exact h5))) (D.jar z)
  have z := R1.set_ow (i := i) (ds := es) (a := b) (xs := ys) upd_same hd h4 h5 (fun j cs w t => by
    rw [get_set] at w
    by_cases ij : i = j
    · rw [if_pos ij] at w
      split at w <;> cases w
    · rw [if_neg ij] at w
      exact R.sep i j ds cs ij e w (by rw [h1, t])) (fun p hk => by
    have w := R.pin i p hk ds e
    rw [h1] at w
    cases w
    rfl)
  rw [set_get h1, List.set_set] at z
  exact z
theorem Rp.ret (R : Rp K J n σ H H0 ρ) (h : ResOk K n σ ρ H H0 v r) : RetOk K J n H v r := by
  refine ⟨H0, R.sub, R.fr, R.base, R.fresh, R.jar, ?_⟩
  cases r with
  | un => exact h
  | da d => exact h
  | ow ds =>
    obtain ⟨a, xs, h1, h2, h3, h4, h5, _⟩ := h
    exact ⟨a, xs, h1, h2, h3, h4, h5, fun i es e => by simp at e⟩
  | ja => exact h
/-- one object more to be kept -/
def En.keep (n : En) (p : Addr) (o : HO) : En := { n with He := upd n.He p o }
theorem Rp.keep (R : Rp K J n σ H H0 ρ) {p : Addr} {o : HO} (h : H p = some o) (h0 : H0 p = none) (he : n.He p = none) (hs : ∀ (i : Nat) (es : List D), ρ[i]? = some (Sl.ow es) → σ[i]? ≠ some (some (V.ref p))) : Rp K J (n.keep p o) σ H H0 ρ where
  len := R.len
  sub := R.sub
  sl := fun i s e => by
    have q := R.sl i s e
    cases s with
    | un => trivial
    | da d => exact q
    | ow ds =>
      obtain ⟨a, xs, h1, h2, h3, h4, h5⟩ := q
      have np : a ≠ p := fun z => hs i ds e (by rw [h1, z])
      exact ⟨a, xs, h1, h2, h3, h4, by show upd n.He p o a = none; rw [upd_ne np]; exact h5⟩
    | ja => exact q
  sep := R.sep
  fr := fun a u ha e => by
    have e' : upd n.He p o a = some u := e
    by_cases q : a = p
    · subst q; rw [upd_same] at e'; rw [h]; exact e'
    · rw [upd_ne q] at e'; exact R.fr a u ha e'
  base := R.base
  fresh := fun a h1 h2 => by
    have h2' : upd n.He p o a ≠ none := h2
    by_cases q : a = p
    · subst q; exact h0
    · rw [upd_ne q] at h2'; exact R.fresh a h1 h2'
  jar := R.jar
  jdom := fun a ha => ⟨(R.jdom a ha).1, by
    show upd n.He p o a ≠ none
    by_cases q : a = p
    · subst q; rw [upd_same]; intro z; cases z
    · rw [upd_ne q]; exact (R.jdom a ha).2⟩
  pin := R.pin
theorem Rp.unkeep {p : Addr} {o : HO} (he : n.He p = none) (jd : ∀ a ∈ n.as, n.H0 a = none ∧ n.He a ≠ none) (R : Rp K J (n.keep p o) σ H H0 ρ) : Rp K J n σ H H0 ρ where
  len := R.len
  sub := R.sub
  sl := fun i s e => by
    have q := R.sl i s e
    cases s with
    | un => trivial
    | da d => exact q
    | ow ds =>
      obtain ⟨a, xs, h1, h2, h3, h4, h5⟩ := q
      have h5' : upd n.He p o a = none := h5
      have np : a ≠ p := fun z => by rw [z, upd_same] at h5'; cases h5'
      rw [upd_ne np] at h5'
      exact ⟨a, xs, h1, h2, h3, h4, h5'⟩
    | ja => exact q
  sep := R.sep
  fr := fun a u ha e => R.fr a u ha (by
    show upd n.He p o a = some u
    rw [upd_ne (ne_of_none e he)]; exact e)
  base := R.base
  fresh := fun a h1 h2 => R.fresh a h1 (by
    show upd n.He p o a ≠ none
    rw [upd_ne (fun q => h2 (by rw [q]; exact he))]; exact h2)
  jar := R.jar
  jdom := jd
  pin := R.pin
theorem Rp.kept {p : Addr} {o : HO} (hp : p ∉ n.as) (R : Rp K J (n.keep p o) σ H H0 ρ) : H p = some o := R.fr p o hp (by show upd n.He p o p = some o; exact upd_same)
theorem Rp.kept0 {p : Addr} {o : HO} (h0 : n.H0 p = none) (R : Rp K J (n.keep p o) σ H H0 ρ) : H0 p = none := R.fresh p h0 (by show upd n.He p o p ≠ none; rw [upd_same]; intro z; cases z)
end
end Zd

set_option Elab.async false
set_option linter.all false
set_option maxRecDepth 100000
set_option maxHeartbeats 4000000
namespace Zd
open PySem PySem.Spec PyProof.Rows L2

/-! ### judgements: an expression with any result, with data, as a test; argument lists -/
abbrev QR := List Sl → (Sl → List Sl → Prop) → Prop
abbrev QD := List Sl → (D → List Sl → Prop) → Prop
abbrev QT := List Sl → (Bool → List Sl → Prop) → Prop
abbrev QL := List Sl → (List D → List Sl → Prop) → Prop
def tR (K : PySem.W.Frag) (J : Jr) (q : QR) : TE := fun σ H Q => ∃ (n : En) (H0 : Hp) (ρ : List Sl) (P : Sl → List Sl → Prop), Rp K J n σ H H0 ρ ∧ q ρ P ∧
  ∀ v H' H0' r ρ', Rp K J n σ H' H0' ρ' → Same H0 H0' → ResOk K n σ ρ' H' H0' v r → P r ρ' → Q v H'
def tD (K : PySem.W.Frag) (J : Jr) (q : QD) : TE := fun σ H Q => ∃ (n : En) (H0 : Hp) (ρ : List Sl) (P : D → List Sl → Prop), Rp K J n σ H H0 ρ ∧ q ρ P ∧
  ∀ v H' H0' d ρ', Rp K J n σ H' H0' ρ' → Same H0 H0' → Dq K H0' v d → P d ρ' → Q v H'
def tT (K : PySem.W.Frag) (J : Jr) (q : QT) : TT := fun σ H Q => ∃ (n : En) (H0 : Hp) (ρ : List Sl) (P : Bool → List Sl → Prop), Rp K J n σ H H0 ρ ∧ q ρ P ∧
  ∀ b H' H0' ρ', Rp K J n σ H' H0' ρ' → Same H0 H0' → P b ρ' → Q b H'
def tL (K : PySem.W.Frag) (J : Jr) (m : Nat) (q : QL) : TA := fun σ H Q => ∃ (n : En) (H0 : Hp) (ρ : List Sl) (P : List D → List Sl → Prop), Rp K J n σ H H0 ρ ∧ q ρ P ∧
  ∀ vs H' H0' ds ρ', Rp K J n σ H' H0' ρ' → Same H0 H0' → DqAll K H0' vs ds → ds.length = m → P ds ρ' → Q vs H'
/-- what is looked at: data, or a list that stands (the def's own, or a new one) -/
def Vw (K : PySem.W.Frag) (H H0 : Hp) (v : V) (d : D) : Prop := Dq K H0 v d ∨ ∃ a xs ds, d = .list ds ∧ v = .ref a ∧ H a = some (.lst xs) ∧ DqAll K H0 xs ds
def tV (K : PySem.W.Frag) (J : Jr) (q : QD) : TE := fun σ H Q => ∃ (n : En) (H0 : Hp) (ρ : List Sl) (P : D → List Sl → Prop), Rp K J n σ H H0 ρ ∧ q ρ P ∧
  ∀ v H' H0' d ρ', Rp K J n σ H' H0' ρ' → Same H0 H0' → Vw K H' H0' v d → P d ρ' → Q v H'
theorem Vw.tup {K : PySem.W.Frag} {H H0 : Hp} {v : V} {ds : List D} (h : Vw K H H0 v (.tuple ds)) : ∃ a xs, v = .ref a ∧ SqT K H0 a xs ∧ DqAll K H0 xs ds := by
  rcases h with h | ⟨a, xs, es, h, _⟩
  · exact dp_tup h
  · cases h
theorem Vw.lst {K : PySem.W.Frag} {H H0 : Hp} {v : V} {ds : List D} (e : Same H0 H) (h : Vw K H H0 v (.list ds)) : ∃ a xs, v = .ref a ∧ SqL K H a xs ∧ DqAll K H0 xs ds := by
  rcases h with h | ⟨a, xs, es, h, rfl, h1, h2⟩
  · obtain ⟨a, xs, h1, h2, h3⟩ := dp_lst h
    exact ⟨a, xs, h1, e.seq h2, h3⟩
  · cases h
    exact ⟨a, xs, rfl, SqL.of h1, h2⟩
theorem Vw.dp {K : PySem.W.Frag} {H H0 : Hp} {v : V} {d : D} (h : Vw K H H0 v d) (hd : ∀ ds, d ≠ .list ds) : Dq K H0 v d := by
  rcases h with h | ⟨a, xs, es, h, _⟩
  · exact h
  · exact absurd h (hd es)
section
variable {X : Cx} {J : Jr} {e a b c : Expr} {es : List Expr} {pos : Pos}
theorem pe_mono {t t' : TE} (h : PE X e t) (i : ∀ σ H Q, t' σ H Q → t σ H Q) : PE X e t' := ⟨fun pins s σ H Q I w => h.run pins s σ H Q I (i _ _ _ w)⟩
theorem pt_mono {t t' : TT} (h : PT X e t) (i : ∀ σ H Q, t' σ H Q → t σ H Q) : PT X e t' := ⟨fun pins s σ H Q I w => h.run pins s σ H Q I (i _ _ _ w)⟩
theorem pa_mono {t t' : TA} (h : PA X es t) (i : ∀ σ H Q, t' σ H Q → t σ H Q) : PA X es t' := ⟨fun pos pins s σ H Q I w => h.run pos pins s σ H Q I (i _ _ _ w)⟩
abbrev PR (J : Jr) (X : Cx) (e : Expr) (q : QR) : Prop := PE X e (tR X.K J q)
abbrev PD (J : Jr) (X : Cx) (e : Expr) (q : QD) : Prop := PE X e (tD X.K J q)
abbrev PV (J : Jr) (X : Cx) (e : Expr) (q : QD) : Prop := PE X e (tV X.K J q)
abbrev PB (J : Jr) (X : Cx) (e : Expr) (q : QT) : Prop := PT X e (tT X.K J q)
abbrev PL (J : Jr) (X : Cx) (es : List Expr) (m : Nat) (q : QL) : Prop := PA X es (tL X.K J m q)
/-- data as a result -/
def qRD (q : QD) : QR := fun ρ P => q ρ fun d ρ' => P (.da d) ρ'
theorem pr_of {q : QD} (h : PD J X e q) : PR J X e (qRD q) := pe_mono h fun σ H Q ⟨n, H0, ρ, P, R, w, k⟩ =>
  ⟨n, H0, ρ, _, R, w, fun v H' H0' d ρ' R' S' hd hp => k v H' H0' (.da d) ρ' R' S' hd hp⟩
/-- any result as data: a new list is frozen -/
def asD (r : Sl) (P : D → Prop) : Prop := match r with
  | .da d => P d
  | .ow ds => P (.list ds)
  | _ => False
def qDR (q : QR) : QD := fun ρ P => q ρ fun r ρ' => asD r fun d => P d ρ'
theorem pd_of {q : QR} (h : PR J X e q) : PD J X e (qDR q) := pe_mono h fun σ H Q ⟨n, H0, ρ, P, R, w, k⟩ => by
  refine ⟨n, H0, ρ, _, R, w, fun v H' H0' r ρ' R' S' hr hp => ?_⟩
  cases r with
  | un => exact hp.elim
  | da d => exact k v H' H0' d ρ' R' S' hr hp
  | ow ds =>
    obtain ⟨a, xs, rfl, h1, h2, h3, h4, h5⟩ := hr
    exact k _ H' _ (.list ds) ρ' (R'.freeze h1 h3 h4 h5) (S'.trans (same_up h3)) (.lst (SqL.of upd_same) (dpa_mono (same_up h3) ds xs h2)) hp
  | ja => exact hp.elim
/-- any result, looked at -/
theorem pv_of {q : QR} (h : PR J X e q) : PV J X e (qDR q) := pe_mono h fun σ H Q ⟨n, H0, ρ, P, R, w, k⟩ => by
  refine ⟨n, H0, ρ, _, R, w, fun v H' H0' r ρ' R' S' hr hp => ?_⟩
  cases r with
  | un => exact hp.elim
  | da d => exact k v H' H0' d ρ' R' S' (.inl hr) hp
  | ow ds =>
    obtain ⟨a, xs, rfl, h1, h2, h3, h4, h5⟩ := hr
    exact k _ H' H0' (.list ds) ρ' R' S' (.inr ⟨a, xs, ds, rfl, rfl, h1, h2⟩) hp
  | ja => exact hp.elim
theorem pv_ofD {q : QD} (h : PD J X e q) : PV J X e q := pe_mono h fun σ H Q ⟨n, H0, ρ, P, R, w, k⟩ =>
  ⟨n, H0, ρ, P, R, w, fun v H' H0' d ρ' R' S' hd hp => k v H' H0' d ρ' R' S' (.inl hd) hp⟩

/-! ### names -/
def seeD (s : Option Sl) (P : D → Prop) : Prop := match s with
  | some (.da d) => P d
  | some (.ow ds) => P (.list ds)
  | _ => False
/-- the slot's list is data from here on -/
def frz (ρ : List Sl) (i : Nat) : List Sl := match ρ[i]? with
  | some (.ow ds) => ρ.set i (.da (.list ds))
  | _ => ρ
def qLook (i : Nat) : QD := fun ρ P => seeD ρ[i]? fun d => P d ρ
def qVar (i : Nat) : QD := fun ρ P => seeD ρ[i]? fun d => P d (frz ρ i)
def qMove (i : Nat) : QR := fun ρ P => match ρ[i]? with
  | some (.da d) => P (.da d) ρ
  | some (.ow ds) => P (.ow ds) (ρ.set i .un)
  | _ => False
theorem Rp.frz1 {K : PySem.W.Frag} {n : En} {σ : L2.St} {H H0 : Hp} {ρ : List Sl} (R : Rp K J n σ H H0 ρ) (i : Nat) : ∃ H0', Same H0 H0' ∧ Rp K J n σ H H0' (frz ρ i) ∧
    ∀ d, seeD ρ[i]? (fun x => x = d) → ∃ v, σ[i]? = some (some v) ∧ Dq K H0' v d ∧ (frz ρ i)[i]? = some (.da d) := by
  unfold frz
  cases e : ρ[i]? with
  | none => exact ⟨H0, .refl _, R, fun d h => h.elim⟩
  | some s =>
    cases s with
    | un => exact ⟨H0, .refl _, R, fun d h => h.elim⟩
    | ja => exact ⟨H0, .refl _, R, fun d h => h.elim⟩
    | da d =>
      obtain ⟨v, h1, h2⟩ := R.sl i _ e
      exact ⟨H0, .refl _, R, fun d' h => by cases (show d = d' from h); exact ⟨v, h1, h2, e⟩⟩
    | ow ds =>
      obtain ⟨a, xs, h1, h2, h3, h4, h5⟩ := R.sl i _ e
      have R1 := (R.drop i).freeze h2 h4 h5 (fun j es w t => by
        rw [get_set] at w
        by_cases ij : i = j
        · rw [if_pos ij] at w
          split at w <;> cases w
        · rw [if_neg ij] at w
          exact R.sep i j ds es ij e w (by rw [h1, t]))
      have hd : Dq K (upd H0 a (.lst xs)) (.ref a) (.list ds) := .lst (SqL.of upd_same) (dpa_mono (same_up h4) ds xs h3)
      have R2 := R1.set_da (i := i) hd
      rw [set_get h1, List.set_set] at R2
      refine ⟨_, same_up h4, R2, fun d h => ?_⟩
      cases (show PyData.list ds = d from h)
      refine ⟨.ref a, h1, hd, ?_⟩
      rw [get_set, if_pos rfl, if_pos (List.getElem?_eq_some_iff.mp e).1]
theorem pd_var {i : Nat} (h : PE X e (tVar i)) : PD J X e (qVar i) := pe_mono h fun σ H Q ⟨n, H0, ρ, P, R, w, k⟩ => by
  obtain ⟨H0', S', R', f⟩ := R.frz1 i
  have w' : seeD ρ[i]? fun d => P d (frz ρ i) := w
  cases e : ρ[i]? with
  | none => rw [e] at w'; exact w'.elim
  | some s =>
    rw [e] at w' f
    cases s with
    | un => exact w'.elim
    | ja => exact w'.elim
    | da d =>
      obtain ⟨v, h1, h2, _⟩ := f d rfl
      exact ⟨v, h1, k v H H0' d _ R' S' h2 w'⟩
    | ow ds =>
      obtain ⟨v, h1, h2, _⟩ := f _ rfl
      exact ⟨v, h1, k v H H0' _ _ R' S' h2 w'⟩
theorem pv_var {i : Nat} (h : PE X e (tVar i)) : PV J X e (qLook i) := pe_mono h fun σ H Q ⟨n, H0, ρ, P, R, w, k⟩ => by
  have w' : seeD ρ[i]? fun d => P d ρ := w
  cases e : ρ[i]? with
  | none => rw [e] at w'; exact w'.elim
  | some s =>
    rw [e] at w'
    have q := R.sl i s e
    cases s with
    | un => exact w'.elim
    | ja => exact w'.elim
    | da d =>
      obtain ⟨v, h1, h2⟩ := q
      exact ⟨v, h1, k v H H0 d ρ R (.refl _) (.inl h2) w'⟩
    | ow ds =>
      obtain ⟨a, xs, h1, h2, h3, h4, h5⟩ := q
      exact ⟨.ref a, h1, k _ H H0 _ ρ R (.refl _) (.inr ⟨a, xs, ds, rfl, rfl, h2, h3⟩) w'⟩
theorem pr_var {i : Nat} (h : PE X e (tVar i)) : PR J X e (qMove i) := pe_mono h fun σ H Q ⟨n, H0, ρ, P, R, w, k⟩ => by
  unfold qMove at w
  cases e : ρ[i]? with
  | none => rw [e] at w; exact w.elim
  | some s =>
    rw [e] at w
    have q := R.sl i s e
    cases s with
    | un => exact w.elim
    | ja => exact w.elim
    | da d =>
      obtain ⟨v, h1, h2⟩ := q
      exact ⟨v, h1, k v H H0 (.da d) ρ R (.refl _) h2 w⟩
    | ow ds =>
      obtain ⟨a, xs, h1, h2, h3, h4, h5⟩ := q
      refine ⟨.ref a, h1, k _ H H0 (.ow ds) _ (R.drop i) (.refl _) ⟨a, xs, rfl, h2, h3, h4, h5, fun j es w t => ?_⟩ w⟩
      rw [get_set] at w
      by_cases ij : i = j
      · rw [if_pos ij] at w
        split at w <;> cases w
      · rw [if_neg ij] at w
        exact R.sep i j ds es ij e w (by rw [h1, t])
def qC (d : D) : QD := fun ρ P => P d ρ
theorem pd_c {v : V} {d : D} (h : PE X e (tC v)) (hd : ∀ H0, Dq X.K H0 v d) : PD J X e (qC d) := pe_mono h fun σ H Q ⟨n, H0, ρ, P, R, w, k⟩ => k v H H0 d ρ R (.refl _) (hd H0) w
theorem pd_int {i : Int} {j : Nat} : PD J X (.Constant (.int i) j pos) (qC (.int i)) := pd_c pe_int fun _ => .int _
theorem pd_str {x : Str} {j : Nat} : PD J X (.Constant (.str x) j pos) (qC (.str x)) := pd_c pe_str fun _ => .str _
theorem pd_bl {x : Bool} {j : Nat} : PD J X (.Constant (.bool x) j pos) (qC (.bool x)) := pd_c pe_bl fun _ => .bl _
theorem pd_non {j : Nat} : PD J X (.Constant .none j pos) (qC .none) := pd_c pe_non fun _ => .non

/-! ### two-place operations -/
abbrev DOp := D → D → (Sl → Prop) → Prop
theorem Vw.of {K : PySem.W.Frag} {H H0 : Hp} {v : V} {d : D} (h : Dq K H0 v d) : Vw K H H0 v d := .inl h
theorem Vw.at {K : PySem.W.Frag} {H H0 : Hp} {v : V} {d : D} (e : Same H0 H) (h : Vw K H H0 v d) : Dq K H v d := by
  rcases h with h | ⟨a, xs, es, rfl, rfl, h1, h2⟩
  · exact dp_mono e d v h
  · exact .lst (SqL.of h1) (dpa_mono e es xs h2)
/-- r does to values what f does to data -/
def OpIs (K : PySem.W.Frag) (J : Jr) (r : R2) (f : DOp) : Prop := ∀ n σ H H0 ρ x y d e P (Q : VK), Rp K J n σ H H0 ρ → Vw K H H0 x d → Vw K H H0 y e → f d e P →
  (∀ v H' H0' s, Rp K J n σ H' H0' ρ → Same H0 H0' → ResOk K n σ ρ H' H0' v s → P s → Q v H') → r x y H Q
def DopOk (J : Jr) (X : Cx) (o : Value → Value → Sem Value) (f : DOp) : Prop := ∃ r, OpR X o r ∧ OpIs X.K J r f
def qBin (f : DOp) (qa qb : QD) : QR := fun ρ P => qa ρ fun d ρ1 => qb ρ1 fun e ρ2 => f d e fun s => P s ρ2
/-- the left one is a name: it is looked at when the right one is known -/
def qBinN (f : DOp) (i : Nat) (qb : QD) : QR := fun ρ P => qb ρ fun e ρ2 => seeD ρ2[i]? fun d => f d e fun s => P s ρ2
theorem Rp.see {K : PySem.W.Frag} {n : En} {σ : L2.St} {H H0 : Hp} {ρ : List Sl} (R : Rp K J n σ H H0 ρ) {i : Nat} {P : D → Prop} (h : seeD ρ[i]? P) : ∃ v d, σ[i]? = some (some v) ∧ Vw K H H0 v d ∧ P d := by
  cases e : ρ[i]? with
  | none => rw [e] at h; exact h.elim
  | some s =>
    rw [e] at h
    have q := R.sl i s e
    cases s with
    | un => exact h.elim
    | ja => exact h.elim
    | da d =>
      obtain ⟨v, h1, h2⟩ := q
      exact ⟨v, d, h1, .inl h2, h⟩
    | ow ds =>
      obtain ⟨a, xs, h1, h2, h3, h4, h5⟩ := q
      exact ⟨_, _, h1, .inr ⟨a, xs, ds, rfl, rfl, h2, h3⟩, h⟩
/-- a reading of a name whose slot has something -/
def hasV (σ : L2.St) (i : Nat) : Prop := ∃ v, σ[i]? = some (some v)
theorem bin_mono {r : R2} {f : DOp} {qa qb : QD} (hr : OpIs X.K J r f) : ∀ σ H Q, tR X.K J (qBin f qa qb) σ H Q → tOp r (tD X.K J qa) (tV X.K J qb) σ H Q := fun σ H Q ⟨n, H0, ρ, P, R, w, k⟩ =>
  ⟨n, H0, ρ, _, R, w, fun x H1 H01 d ρ1 R1 S1 hd w1 => ⟨n, H01, ρ1, _, R1, w1, fun y H2 H02 e ρ2 R2 S2 he w2 =>
    hr n σ H2 H02 ρ2 x y d e _ Q R2 (.of (dp_mono S2 d x hd)) he w2 fun v H' H0' s R' S' hs hp => k v H' H0' s ρ2 R' ((S1.trans S2).trans S') hs hp⟩⟩
theorem binN_mono {r : R2} {f : DOp} {i : Nat} {qb : QD} (hr : OpIs X.K J r f) : ∀ σ H Q, hasV σ i → tR X.K J (qBinN f i qb) σ H Q → tOp r (tVar i) (tV X.K J qb) σ H Q := fun σ H Q hv ⟨n, H0, ρ, P, R, w, k⟩ => by
  obtain ⟨x, hx⟩ := hv
  refine ⟨x, hx, n, H0, ρ, _, R, w, fun y H2 H02 e ρ2 R2 S2 he w2 => ?_⟩
  obtain ⟨x', d, h1, h2, h3⟩ := R2.see w2
  rw [hx] at h1
  cases h1
  exact hr n σ H2 H02 ρ2 x y d e _ Q R2 h2 he h3 fun v H' H0' s R' S' hs hp => k v H' H0' s ρ2 R' (S2.trans S') hs hp
/-- the slot is known ahead, too -/
def known (ρ : List Sl) (i : Nat) : Prop := match ρ[i]? with
  | some (.da _) => True
  | some (.ow _) => True
  | _ => False
theorem Rp.hasV {K : PySem.W.Frag} {n : En} {σ : L2.St} {H H0 : Hp} {ρ : List Sl} (R : Rp K J n σ H H0 ρ) {i : Nat} (h : known ρ i) : hasV σ i := by
  unfold known at h
  cases e : ρ[i]? with
  | none => rw [e] at h; exact h.elim
  | some s =>
    rw [e] at h
    have q := R.sl i s e
    cases s with
    | un => exact h.elim
    | ja => exact h.elim
    | da d => obtain ⟨v, h1, _⟩ := q; exact ⟨v, h1⟩
    | ow ds => obtain ⟨a, xs, h1, _⟩ := q; exact ⟨_, h1⟩
/-- as qBinN, and the slot is known ahead -/
def qBinM (f : DOp) (i : Nat) (qb : QD) : QR := fun ρ P => known ρ i ∧ qBinN f i qb ρ P
theorem binM_mono {r : R2} {f : DOp} {i : Nat} {qb : QD} (hr : OpIs X.K J r f) : ∀ σ H Q, tR X.K J (qBinM f i qb) σ H Q → tOp r (tVar i) (tV X.K J qb) σ H Q := fun σ H Q ⟨n, H0, ρ, P, R, w, k⟩ =>
  binN_mono hr σ H Q (R.hasV w.1) ⟨n, H0, ρ, P, R, w.2, k⟩
theorem pr_bin {op : Operator} {f : DOp} {qa qb : QD} (ho : DopOk J X (binaryOp op) f) (ha : PD J X a qa) (hb : PV J X b qb) : PR J X (.BinOp a op b pos) (qBin f qa qb) := by
  obtain ⟨r, h1, h2⟩ := ho
  exact pe_mono (pe_op h1 ha hb) (bin_mono h2)
theorem pr_binN {op : Operator} {f : DOp} {i : Nat} {qb : QD} (ho : DopOk J X (binaryOp op) f) (ha : PE X a (tVar i)) (hb : PV J X b qb) : PR J X (.BinOp a op b pos) (qBinM f i qb) := by
  obtain ⟨r, h1, h2⟩ := ho
  exact pe_mono (pe_op h1 ha hb) (binM_mono h2)
theorem pr_cmp {op : CmpOp} {f : DOp} {qa qb : QD} (ho : DopOk J X (compareOp op) f) (hm : behindInMarks op b = false) (ha : PD J X a qa) (hb : PV J X b qb) : PR J X (.Compare a [op] [b] pos) (qBin f qa qb) := by
  obtain ⟨r, h1, h2⟩ := ho
  exact pe_mono (pe_cmpR h1 ha hb hm) (bin_mono h2)
theorem pr_cmpN {op : CmpOp} {f : DOp} {i : Nat} {qb : QD} (ho : DopOk J X (compareOp op) f) (hm : behindInMarks op b = false) (ha : PE X a (tVar i)) (hb : PV J X b qb) : PR J X (.Compare a [op] [b] pos) (qBinM f i qb) := by
  obtain ⟨r, h1, h2⟩ := ho
  exact pe_mono (pe_cmpR h1 ha hb hm) (binM_mono h2)
/-- a truth value of data -/
def truD : D → Option Bool
  | .none => some false
  | .bool b => some b
  | .int i => some (i != 0)
  | .str x => some ((x.length : Int) != 0)
  | .list ds => some !ds.isEmpty
  | .tuple ds => some !ds.isEmpty
  | .dict _ => Option.none
def isB (r : Sl) (P : Bool → Prop) : Prop := match r with
  | .da (.bool b) => P b
  | _ => False
def qTst (q : QR) : QT := fun ρ P => q ρ fun r ρ' => isB r fun b => P b ρ'
theorem tst_mono {q : QR} {t : TE} (hm : ∀ σ H Q, tR X.K J q σ H Q → t σ H Q) : ∀ σ H Q, tT X.K J (qTst q) σ H Q → tTest t σ H Q := fun σ H Q ⟨n, H0, ρ, P, R, w, k⟩ => by
  refine hm σ H _ ⟨n, H0, ρ, _, R, w, fun v H' H0' s ρ' R' S' hs hp => ?_⟩
  cases s with
  | un => exact hp.elim
  | ow ds => exact hp.elim
  | ja => exact hp.elim
  | da d =>
    cases d with
    | bool b =>
      have e := dp_bool hs
      subst e
      exact ⟨b, rfl, k b H' H0' ρ' R' S' hp⟩
    | _ => exact hp.elim
theorem pb_cmp {op : CmpOp} {f : DOp} {qa qb : QD} (ho : DopOk J X (compareOp op) f) (hm : behindInMarks op b = false) (ha : PD J X a qa) (hb : PV J X b qb) : PB J X (.Compare a [op] [b] pos) (qTst (qBin f qa qb)) := by
  obtain ⟨r, h1, h2⟩ := ho
  exact pt_mono (pt_cmpR h1 ha hb hm) (tst_mono (bin_mono h2))
theorem pb_cmpN {op : CmpOp} {f : DOp} {i : Nat} {qb : QD} (ho : DopOk J X (compareOp op) f) (hm : behindInMarks op b = false) (ha : PE X a (tVar i)) (hb : PV J X b qb) : PB J X (.Compare a [op] [b] pos) (qTst (qBinM f i qb)) := by
  obtain ⟨r, h1, h2⟩ := ho
  exact pt_mono (pt_cmpR h1 ha hb hm) (tst_mono (binM_mono h2))
/-- an expression that is no comparison as a test -/
def qTru (q : QD) : QT := fun ρ P => q ρ fun d ρ' => match d with
  | .bool b => P b ρ'
  | .str x => x.length ≤ sizeLine ∧ P ((x.length : Int) != 0) ρ'
  | .none => P false ρ'
  | .int i => P (i != 0) ρ'
  | .list ds => P (!ds.isEmpty) ρ'
  | .tuple ds => P (!ds.isEmpty) ρ'
  | .dict _ => False
theorem dpa_empty {K : PySem.W.Frag} {H : Hp} {ds : List D} {xs : List V} (h : DqAll K H xs ds) : ds.isEmpty = xs.isEmpty := by
  cases h <;> rfl
theorem pb_tru {q : QD} (ha : PD J X e q) (he : ∀ whole, isTrue e X.env whole = (do let v ← whole; standAt e.pos; holding [v] (truthy v))) : PB J X e (qTru q) := by
  refine pt_mono (pt_truth ha he) fun σ H Q ⟨n, H0, ρ, P, R, w, k⟩ => ⟨n, H0, ρ, _, R, w, fun v H' H0' d ρ' R' S' hd hp => ?_⟩
  cases d with
  | none => have e := dp_none hd; subst e; exact ⟨_, rfl, k _ H' H0' ρ' R' S' hp⟩
  | bool b => have e := dp_bool hd; subst e; exact ⟨_, rfl, k _ H' H0' ρ' R' S' hp⟩
  | int b => have e := dp_int hd; subst e; exact ⟨_, rfl, k _ H' H0' ρ' R' S' hp⟩
  | str b => have e := dp_str hd; subst e; exact ⟨_, ⟨hp.1, rfl⟩, k _ H' H0' ρ' R' S' hp.2⟩
  | list ds =>
    obtain ⟨a, xs, rfl, h1, h2⟩ := dp_lst hd
    have hp' : P (!ds.isEmpty) ρ' := hp
    rw [dpa_empty h2] at hp'
    exact ⟨_, .inl ⟨xs, R'.sub.seq h1, rfl⟩, k _ H' H0' ρ' R' S' hp'⟩
  | tuple ds =>
    obtain ⟨a, xs, rfl, h1, h2⟩ := dp_tup hd
    have hp' : P (!ds.isEmpty) ρ' := hp
    rw [dpa_empty h2] at hp'
    exact ⟨_, .inr (.inl ⟨xs, same_t R'.sub h1, rfl⟩), k _ H' H0' ρ' R' S' hp'⟩
  | dict _ => exact hp.elim
def qAnd (qa qb : QT) : QT := fun ρ P => qa ρ fun b ρ' => if b = true then qb ρ' P else P false ρ'
def qOr (qa qb : QT) : QT := fun ρ P => qa ρ fun b ρ' => if b = true then P true ρ' else qb ρ' P
def qNot (qa : QT) : QT := fun ρ P => qa ρ fun b ρ' => P (!b) ρ'
abbrev PWd (J : Jr) (X : Cx) (e : Expr) (q : QT) : Prop := PW X e (tT X.K J q)
theorem pw_mono {t t' : TT} (h : PW X e t) (i : ∀ σ H Q, t' σ H Q → t σ H Q) : PW X e t' := ⟨fun wh pins s σ H Q I w => h.run wh pins s σ H Q I (i _ _ _ w)⟩
theorem pwd_and1 {qa : QT} (ha : PB J X a qa) : PWd J X (.BoolOp .And [a] pos) qa := pw_and1 ha
theorem pwd_or1 {qa : QT} (ha : PB J X a qa) : PWd J X (.BoolOp .Or [a] pos) qa := pw_or1 ha
theorem pwd_and {qa qb : QT} {rest : List Expr} (ha : PB J X a qa) (hb : PWd J X (.BoolOp .And (b :: rest) pos) qb) : PWd J X (.BoolOp .And (a :: b :: rest) pos) (qAnd qa qb) :=
  pw_mono (pw_and ha hb) fun σ H Q ⟨n, H0, ρ, P, R, w, k⟩ => ⟨n, H0, ρ, _, R, w, fun c H1 H01 ρ1 R1 S1 w1 => by
    cases c with
    | true => exact ⟨n, H01, ρ1, P, R1, w1, fun b H' H0' ρ' R' S' hp => k b H' H0' ρ' R' (S1.trans S') hp⟩
    | false => exact k _ H1 H01 ρ1 R1 S1 w1⟩
theorem pwd_or {qa qb : QT} {rest : List Expr} (ha : PB J X a qa) (hb : PWd J X (.BoolOp .Or (b :: rest) pos) qb) : PWd J X (.BoolOp .Or (a :: b :: rest) pos) (qOr qa qb) :=
  pw_mono (pw_or ha hb) fun σ H Q ⟨n, H0, ρ, P, R, w, k⟩ => ⟨n, H0, ρ, _, R, w, fun c H1 H01 ρ1 R1 S1 w1 => by
    cases c with
    | true => exact k _ H1 H01 ρ1 R1 S1 w1
    | false => exact ⟨n, H01, ρ1, P, R1, w1, fun b H' H0' ρ' R' S' hp => k b H' H0' ρ' R' (S1.trans S') hp⟩⟩
theorem pb_w {q : QT} (h : PWd J X e q) : PB J X e q := PW.pt h
theorem pb_not {qa : QT} (ha : PB J X a qa) : PB J X (.UnaryOp .Not a pos) (qNot qa) := pt_mono (pt_not ha) fun σ H Q ⟨n, H0, ρ, P, R, w, k⟩ => ⟨n, H0, ρ, _, R, w, fun b H' H0' ρ' R' S' hp => k (!b) H' H0' ρ' R' S' hp⟩
/-- and, or, not of bools as values -/
def qAndV (qa qb : QD) : QD := fun ρ P => qa ρ fun d ρ' => ∃ c, d = .bool c ∧ if c = true then qb ρ' P else P (.bool false) ρ'
def qOrV (qa qb : QD) : QD := fun ρ P => qa ρ fun d ρ' => ∃ c, d = .bool c ∧ if c = true then P (.bool true) ρ' else qb ρ' P
def qNotV (qa : QD) : QD := fun ρ P => qa ρ fun d ρ' => ∃ c, d = .bool c ∧ P (.bool (!c)) ρ'
theorem pd_one {op : BoolOp} {q : QD} (h : PD J X a q) : PD J X (.BoolOp op [a] pos) q := pe_one h
theorem pd_and {qa qb : QD} {rest : List Expr} (ha : PD J X a qa) (hb : PD J X (.BoolOp .And (b :: rest) pos) qb) : PD J X (.BoolOp .And (a :: b :: rest) pos) (qAndV qa qb) :=
  pe_mono (pe_and ha hb) fun σ H Q ⟨n, H0, ρ, P, R, w, k⟩ => ⟨n, H0, ρ, _, R, w, fun x H1 H01 d ρ1 R1 S1 hd w1 => by
    obtain ⟨c, rfl, w1⟩ := w1
    refine ⟨c, dp_bool hd, ?_⟩
    cases c with
    | true => exact ⟨n, H01, ρ1, P, R1, w1, fun v H' H0' d ρ' R' S' hd hp => k v H' H0' d ρ' R' (S1.trans S') hd hp⟩
    | false => exact k _ H1 H01 _ ρ1 R1 S1 (.bl _) w1⟩
theorem pd_or {qa qb : QD} {rest : List Expr} (ha : PD J X a qa) (hb : PD J X (.BoolOp .Or (b :: rest) pos) qb) : PD J X (.BoolOp .Or (a :: b :: rest) pos) (qOrV qa qb) :=
  pe_mono (pe_or ha hb) fun σ H Q ⟨n, H0, ρ, P, R, w, k⟩ => ⟨n, H0, ρ, _, R, w, fun x H1 H01 d ρ1 R1 S1 hd w1 => by
    obtain ⟨c, rfl, w1⟩ := w1
    refine ⟨c, dp_bool hd, ?_⟩
    cases c with
    | true => exact k _ H1 H01 _ ρ1 R1 S1 (.bl _) w1
    | false => exact ⟨n, H01, ρ1, P, R1, w1, fun v H' H0' d ρ' R' S' hd hp => k v H' H0' d ρ' R' (S1.trans S') hd hp⟩⟩
theorem pd_not {qa : QD} (ha : PD J X a qa) : PD J X (.UnaryOp .Not a pos) (qNotV qa) :=
  pe_mono (pe_not ha) fun σ H Q ⟨n, H0, ρ, P, R, w, k⟩ => ⟨n, H0, ρ, _, R, w, fun x H1 H01 d ρ1 R1 S1 hd w1 => by
    obtain ⟨c, rfl, w1⟩ := w1
    exact ⟨c, dp_bool hd, k _ H1 H01 _ ρ1 R1 S1 (.bl _) w1⟩⟩
def qIf (qt : QT) (qa qb : QR) : QR := fun ρ P => qt ρ fun b ρ' => if b = true then qa ρ' P else qb ρ' P
theorem pr_if {qt : QT} {qa qb : QR} (hc : PB J X c qt) (ha : PR J X a qa) (hb : PR J X b qb) : PR J X (.IfExp c a b pos) (qIf qt qa qb) :=
  pe_mono (pe_ifExp hc ha hb) fun σ H Q ⟨n, H0, ρ, P, R, w, k⟩ => ⟨n, H0, ρ, _, R, w, fun x H1 H01 ρ1 R1 S1 w1 => by
    cases x with
    | true => exact ⟨n, H01, ρ1, P, R1, w1, fun v H' H0' r ρ' R' S' hr hp => k v H' H0' r ρ' R' (S1.trans S') hr hp⟩
    | false => exact ⟨n, H01, ρ1, P, R1, w1, fun v H' H0' r ρ' R' S' hr hp => k v H' H0' r ρ' R' (S1.trans S') hr hp⟩⟩

/-! ### written tuples, lists -/
def qNil : QL := fun ρ P => P [] ρ
def qCons (qa : QD) (qr : QL) : QL := fun ρ P => qa ρ fun d ρ1 => qr ρ1 fun ds ρ2 => P (d :: ds) ρ2
theorem pl_nil : PL J X [] 0 qNil := pa_mono pa_nil fun σ H Q ⟨n, H0, ρ, P, R, w, k⟩ => k [] H H0 [] ρ R (.refl _) .nil rfl w
theorem pl_cons {m : Nat} {qa : QD} {qr : QL} (ha : PD J X e qa) (hr : PL J X es m qr) (hs : starEach (e :: es) X.env = (false, eval e X.env) :: starEach es X.env := by rfl) : PL J X (e :: es) (m + 1) (qCons qa qr) :=
  pa_mono (pa_cons ha hr hs) fun σ H Q ⟨n, H0, ρ, P, R, w, k⟩ => ⟨n, H0, ρ, _, R, w, fun x H1 H01 d ρ1 R1 S1 hd w1 => ⟨n, H01, ρ1, _, R1, w1, fun xs H2 H02 ds ρ2 R2 S2 hds hl w2 =>
    k (x :: xs) H2 H02 (d :: ds) ρ2 R2 (S1.trans S2) (.cons (dp_mono S2 d x hd) hds) (by rw [List.length_cons, hl]) w2⟩⟩
def qTup (q : QL) : QD := fun ρ P => q ρ fun ds ρ' => P (.tuple ds) ρ'
def qLst (q : QL) : QR := fun ρ P => q ρ fun ds ρ' => P (.ow ds) ρ'
theorem pd_tup {m : Nat} {x1 : Nat} {q : QL} (h : PL J X es m q) (hm : decide (m ≤ 1000) = true) : PD J X (.Tuple es x1 pos) (qTup q) :=
  pe_mono (pe_tup h) fun σ H Q ⟨n, H0, ρ, P, R, w, k⟩ => ⟨n, H0, ρ, _, R, w, fun xs H1 H01 ds ρ1 R1 S1 hds hl w1 => by
    have e := dpa_len hds
    have hm := of_decide_eq_true hm
    refine ⟨Nat.le_of_lt (small1000 (by omega)), fun p hp => ?_⟩
    have h0 := R1.h0 hp
    exact k _ _ _ (.tuple ds) ρ1 (R1.alloc hp) (S1.trans (same_up h0)) (.tup (SqT.of upd_same) (dpa_mono (same_up h0) ds xs hds)) w1⟩
theorem pr_lst {m : Nat} {q : QL} (h : PL J X es m q) (hm : decide (m ≤ 1000) = true) : PR J X (.List es pos) (qLst q) :=
  pe_mono (pe_lst h) fun σ H Q ⟨n, H0, ρ, P, R, w, k⟩ => ⟨n, H0, ρ, _, R, w, fun xs H1 H01 ds ρ1 R1 S1 hds hl w1 => by
    have e := dpa_len hds
    have hm := of_decide_eq_true hm
    refine ⟨Nat.le_of_lt (small1000 (by omega)), fun p hp => ?_⟩
    refine k _ _ _ (.ow ds) ρ1 (R1.laid hp) S1 ⟨p, xs, rfl, upd_same, hds, R1.h0 hp, R1.he0 hp, fun i es e => ?_⟩ w1
    obtain ⟨a, ys, h1, h2, _⟩ := R1.sl i _ e
    intro z
    rw [h1] at z
    cases z
    rw [hp] at h2
    cases h2⟩
end
end Zd

set_option Elab.async false
set_option linter.all false
set_option maxRecDepth 100000
set_option maxHeartbeats 4000000
namespace Zd
open PySem PySem.Spec PyProof.Rows L2
section
variable {X : Cx} {J : Jr} {e a b c : Expr} {es : List Expr} {pos : Pos}
theorem opr_or {o : Value → Value → Sem Value} {r r' : R2} (h : OpR X o r) (h' : OpR X o r') : OpR X o (fun x y H Q => r x y H Q ∨ r' x y H Q) :=
  fun pins s σ H x y v u Q I rx ry w => w.elim (h pins s σ H x y v u Q I rx ry) (h' pins s σ H x y v u Q I rx ry)
theorem here {K : PySem.W.Frag} {n : En} {σ : L2.St} {H H0 : Hp} {ρ : List Sl} {P : Sl → Prop} {Q : VK} (k : ∀ v H' H0' s, Rp K J n σ H' H0' ρ → Same H0 H0' → ResOk K n σ ρ H' H0' v s → P s → Q v H') (R : Rp K J n σ H H0 ρ)
    {v : V} {d : D} (h : Dq K H0 v d) (w : P (.da d)) : Q v H := k v H H0 (.da d) R (.refl _) h w
theorem Vw.int {K : PySem.W.Frag} {H H0 : Hp} {v : V} {i : Int} (h : Vw K H H0 v (.int i)) : v = .int i := dp_int (h.dp fun _ z => nomatch z)
theorem Vw.str {K : PySem.W.Frag} {H H0 : Hp} {v : V} {i : Str} (h : Vw K H H0 v (.str i)) : v = .str i := dp_str (h.dp fun _ z => nomatch z)
theorem Vw.bl {K : PySem.W.Frag} {H H0 : Hp} {v : V} {i : Bool} (h : Vw K H H0 v (.bool i)) : v = .bl i := dp_bool (h.dp fun _ z => nomatch z)
theorem Vw.non {K : PySem.W.Frag} {H H0 : Hp} {v : V} (h : Vw K H H0 v .none) : v = .non := dp_none (h.dp fun _ z => nomatch z)
/-- new, so of no slot -/
theorem Rp.new {K : PySem.W.Frag} {n : En} {σ : L2.St} {H H0 : Hp} {ρ : List Sl} (R : Rp K J n σ H H0 ρ) {p : Addr} (hp : H p = none) : ∀ (i : Nat) (es : List D), ρ[i]? = some (Sl.ow es) → σ[i]? ≠ some (some (V.ref p)) := fun i es e z => by
  obtain ⟨a, ys, h1, h2, _⟩ := R.sl i _ e
  rw [h1] at z
  cases z
  rw [hp] at h2
  cases h2
/-- a new list as a result -/
theorem Rp.newL {K : PySem.W.Frag} {n : En} {σ : L2.St} {H H0 : Hp} {ρ : List Sl} (R : Rp K J n σ H H0 ρ) {p : Addr} (hp : H p = none) {xs : List V} {ds : List D} (hd : DqAll K H0 xs ds) :
    Rp K J n σ (upd H p (.lst xs)) H0 ρ ∧ ResOk K n σ ρ (upd H p (.lst xs)) H0 (.ref p) (.ow ds) :=
  ⟨R.laid hp, p, xs, rfl, upd_same, hd, R.h0 hp, R.he0 hp, R.new hp⟩
/-- a new tuple as a result -/
theorem Rp.newT {K : PySem.W.Frag} {n : En} {σ : L2.St} {H H0 : Hp} {ρ : List Sl} (R : Rp K J n σ H H0 ρ) {p : Addr} (hp : H p = none) {xs : List V} {ds : List D} (hd : DqAll K H0 xs ds) :
    Rp K J n σ (upd H p (.tup xs)) (upd H0 p (.tup xs)) ρ ∧ Same H0 (upd H0 p (.tup xs)) ∧ ResOk K n σ ρ (upd H p (.tup xs)) (upd H0 p (.tup xs)) (.ref p) (.da (.tuple ds)) :=
  ⟨R.alloc hp, same_up (R.h0 hp), .tup (SqT.of upd_same) (dpa_mono (same_up (R.h0 hp)) ds xs hd)⟩

/-! ### + - * // % ** on data -/
/-- list + list, whatever lists they are -/
def rCatS (K : PySem.W.Frag) : R2 := fun x y H Q => ∃ l b xs zs, x = .ref l ∧ y = .ref b ∧ SqL K H l xs ∧ SqL K H b zs ∧ xs.length + zs.length ≤ sizeLine ∧ ∀ p, H p = none → Q (.ref p) (upd H p (.lst (xs ++ zs)))
theorem op_catS : OpR X (binaryOp .Add) (rCatS X.K) := by
  intro pins s σ H x y v u Q I rx ry w
  obtain ⟨l, b, xs, zs, rfl, rfl, h1, h2, hz, q⟩ := w
  cases rx
  cases ry
  obtain ⟨us, r1, ⟨⟨c1, d1, t1, k1⟩, n1, e1, q1, q2, q3⟩, _⟩ := I.list h1
  obtain ⟨ws, r2, ⟨⟨c2, d2, t2, k2⟩, n2, e2, p1, p2, p3⟩, _⟩ := I.list h2
  simp only at q1 q2 q3 p1 p2 p3
  subst q1 q3 p1 p3
  have l1 := r1.length
  have l2 := r2.length
  refine concat_meets ⟨_, e1, rfl⟩ ⟨_, e2, rfl⟩ noFill_list_add seq_list_add F.slot_list_add F.entry_list_add (F.args_list_add_2 _ _) (list_addW l b us.toArray ws.toArray n1 n2 d1 d2 k1 k2 (by rw [List.size_toArray, List.size_toArray]; omega)) ⟨e1, e2, ?_⟩
  rw [show us.toArray ++ ws.toArray = (us ++ ws).toArray by simp]
  exact ⟨.ref _, _, I.lnew (t' := s.toks) (r1.append r2) (by rw [List.length_append]; omega), rfl, q _ I.fresh⟩
def dAdd : DOp := fun d e P => match d, e with
  | .int i, .int j => P (.da (.int (i + j)))
  | .str x, .str y => x.length + y.length ≤ sizeLine ∧ P (.da (.str (x ++ y)))
  | .tuple x, .tuple y => x.length + y.length ≤ sizeLine ∧ P (.da (.tuple (x ++ y)))
  | .list x, .list y => x.length + y.length ≤ sizeLine ∧ P (.ow (x ++ y))
  | _, _ => False
theorem op_dAdd : DopOk J X (binaryOp .Add) dAdd := by
  refine ⟨_, opr_or (opr_or op_add op_add_str) (opr_or op_catA op_catS), fun n σ H H0 ρ x y d e P Q R hd he w k => ?_⟩
  cases d with
  | int i =>
    cases e with
    | int j =>
      have h1 := hd.int; have h2 := he.int
      subst h1; subst h2
      exact .inl (.inl ⟨i, j, rfl, rfl, here k R (Dq.int _) w⟩)
    | _ => exact w.elim
  | str i =>
    cases e with
    | str j =>
      have h1 := hd.str; have h2 := he.str
      subst h1; subst h2
      exact .inl (.inr ⟨i, j, rfl, rfl, w.1, here k R (Dq.str _) w.2⟩)
    | _ => exact w.elim
  | tuple i =>
    cases e with
    | tuple j =>
      obtain ⟨a1, xs, rfl, s1, m1⟩ := hd.tup
      obtain ⟨a2, ys, rfl, s2, m2⟩ := he.tup
      have l1 := dpa_len m1
      have l2 := dpa_len m2
      refine .inr (.inl ⟨a1, a2, xs, ys, rfl, rfl, same_t R.sub s1, same_t R.sub s2, by rw [l1, l2]; exact w.1, fun z => ?_, fun z z2 => ?_, fun z z2 p hp => ?_⟩)
      · subst z
        cases i with
        | nil => exact here k R (Dq.tup s2 m2) w.2
        | cons _ _ => cases l1
      · subst z2
        cases j with
        | nil => exact here k R (Dq.tup s1 m1) (by have := w.2; rw [List.append_nil] at this; exact this)
        | cons _ _ => cases l2
      · obtain ⟨r1, r2, r3⟩ := R.newT hp (dpa_app m1 m2)
        exact k _ _ _ _ r1 r2 r3 w.2
    | _ => exact w.elim
  | list i =>
    cases e with
    | list j =>
      obtain ⟨a1, xs, rfl, s1, m1⟩ := hd.lst R.sub
      obtain ⟨a2, ys, rfl, s2, m2⟩ := he.lst R.sub
      refine .inr (.inr ⟨a1, a2, xs, ys, rfl, rfl, s1, s2, by rw [dpa_len m1, dpa_len m2]; exact w.1, fun p hp => ?_⟩)
      obtain ⟨r1, r2⟩ := R.newL hp (dpa_app m1 m2)
      exact k _ _ _ _ r1 (.refl _) r2 w.2
    | _ => exact w.elim
  | _ => exact w.elim
def dI (C : Int → Int → Prop) (g : Int → Int → D) : DOp := fun d e P => match d, e with
  | .int i, .int j => C i j ∧ P (.da (g i j))
  | _, _ => False
theorem opis_I {K : PySem.W.Frag} {C : Int → Int → Prop} {g : Int → Int → V} {g' : Int → Int → D} (hg : ∀ i j H0, Dq K H0 (g i j) (g' i j)) : OpIs K J (rI C g) (dI C g') := fun n σ H H0 ρ x y d e P Q R hd he w k => by
  cases d with
  | int i =>
    cases e with
    | int j =>
      have h1 := hd.int; have h2 := he.int
      subst h1; subst h2
      exact ⟨i, j, rfl, rfl, w.1, here k R (hg i j H0) w.2⟩
    | _ => exact w.elim
  | _ => exact w.elim
def dSub : DOp := fun d e P => match d, e with
  | .int i, .int j => P (.da (.int (i - j)))
  | _, _ => False
theorem op_dSub : DopOk J X (binaryOp .Sub) dSub := ⟨_, op_sub, fun n σ H H0 ρ x y d e P Q R hd he w k => by
  cases d with
  | int i =>
    cases e with
    | int j => exact ⟨i, j, hd.int, he.int, here k R (.int _) w⟩
    | _ => exact w.elim
  | _ => exact w.elim⟩
/-- a product that the language takes -/
abbrev CMulA (i j : Int) : Prop := CMul i j ∨ CMulW i j
def dMul : DOp := fun d e P => dI CMulA (fun i j => .int (i * j)) d e P
theorem CMulA.ok {i j : Int} (h : CMulA i j) : IntMulOk i j := h.elim CMul.ok CMulW.ok
theorem op_dMul : DopOk J X (binaryOp .Mult) dMul := ⟨_, opI fun _ _ _ _ _ _ _ hc q => mul_int q hc.ok, opis_I fun _ _ _ => .int _⟩
def dFdiv : DOp := fun d e P => dI CDivW (fun i j => .int (i / j)) d e P
theorem op_dFdiv : DopOk J X (binaryOp .FloorDiv) dFdiv := ⟨_, op_fdivW, opis_I fun _ _ _ => .int _⟩
def dMod : DOp := fun d e P => dI (fun _ j => 0 < j) (fun i j => .int (i % j)) d e P
theorem op_dMod : DopOk J X (binaryOp .Mod) dMod := ⟨_, op_mod, opis_I fun _ _ _ => .int _⟩
def dPow : DOp := fun d e P => dI CPow (fun i j => .int (i ^ j.toNat)) d e P
theorem op_dPow : DopOk J X (binaryOp .Pow) dPow := ⟨_, op_pow, opis_I fun _ _ _ => .int _⟩

/-! ### comparisons -/
def dC (p : Int → Int → Bool) : DOp := fun d e P => match d, e with
  | .int i, .int j => P (.da (.bool (p i j)))
  | _, _ => False
theorem opis_C {K : PySem.W.Frag} {p : Int → Int → Bool} : OpIs K J (rI0 fun i j => .bl (p i j)) (dC p) := fun n σ H H0 ρ x y d e P Q R hd he w k => by
  cases d with
  | int i =>
    cases e with
    | int j =>
      have h1 := hd.int; have h2 := he.int
      subst h1; subst h2
      exact ⟨i, j, rfl, rfl, here k R (Dq.bl _) w⟩
    | _ => exact w.elim
  | _ => exact w.elim
def dLt : DOp := fun d e P => dC (fun i j => decide (i < j)) d e P
def dLe : DOp := fun d e P => dC (fun i j => decide (i ≤ j)) d e P
def dGt : DOp := fun d e P => dC (fun i j => decide (j < i)) d e P
def dGe : DOp := fun d e P => dC (fun i j => decide (j ≤ i)) d e P
theorem op_dLt : DopOk J X (compareOp .Lt) dLt := ⟨_, op_lt, opis_C⟩
theorem op_dLe : DopOk J X (compareOp .LtE) dLe := ⟨_, op_le, opis_C⟩
theorem op_dGt : DopOk J X (compareOp .Gt) dGt := ⟨_, op_gt, opis_C⟩
theorem op_dGe : DopOk J X (compareOp .GtE) dGe := ⟨_, op_ge, opis_C⟩
/-- == of data -/
def dEqB (g : Bool → Bool) : DOp := fun d e P => match d, e with
  | .int i, .int j => P (.da (.bool (g (decide (i = j)))))
  | .str x, .str y => P (.da (.bool (g (decide (x = y)))))
  | .bool x, .bool y => P (.da (.bool (g (decide (x = y)))))
  | d, e => SeqAt.shaped d = true ∧ SeqAt.shaped e = true ∧ P (.da (.bool (g (PyData.eqv d e))))
theorem eq_ready {K : PySem.W.Frag} {g : Bool → Bool} {n : En} {σ : L2.St} {H H0 : Hp} {ρ : List Sl} {x y : V} {d e : D} {P : Sl → Prop} {Q : VK} (R : Rp K J n σ H H0 ρ) (hd : Vw K H H0 x d) (he : Vw K H H0 y e) (w : dEqB g d e P)
    (k : ∀ v H' H0' s, Rp K J n σ H' H0' ρ → Same H0 H0' → ResOk K n σ ρ H' H0' v s → P s → Q v H') :
    (scal x y = true ∧ Q (.bl (g (decide (x = y)))) H) ∨ (∃ d e, L2.Dp K H x d ∧ L2.Dp K H y e ∧ SeqAt.shaped d = true ∧ SeqAt.shaped e = true ∧ Q (.bl (g (PyData.eqv d e))) H) := by
  have gen : SeqAt.shaped d = true ∧ SeqAt.shaped e = true ∧ P (.da (.bool (g (PyData.eqv d e)))) → ∃ d e, L2.Dp K H x d ∧ L2.Dp K H y e ∧ SeqAt.shaped d = true ∧ SeqAt.shaped e = true ∧ Q (.bl (g (PyData.eqv d e))) H := fun ⟨w1, w2, w3⟩ =>
    ⟨d, e, dq_dp d x (hd.at R.sub), dq_dp e y (he.at R.sub), w1, w2, here k R (Dq.bl _) w3⟩
  cases d with
  | int i =>
    cases e with
    | int j =>
      have h1 := hd.int; have h2 := he.int
      subst h1; subst h2
      refine .inl ⟨rfl, ?_⟩
      have q : decide ((V.int i) = V.int j) = decide (i = j) := by simp
      rw [q]
      exact here k R (Dq.bl _) w
    | _ => exact .inr (gen w)
  | str i =>
    cases e with
    | str j =>
      have h1 := hd.str; have h2 := he.str
      subst h1; subst h2
      refine .inl ⟨rfl, ?_⟩
      have q : decide ((V.str i) = V.str j) = decide (i = j) := by simp
      rw [q]
      exact here k R (Dq.bl _) w
    | _ => exact .inr (gen w)
  | bool i =>
    cases e with
    | bool j =>
      have h1 := hd.bl; have h2 := he.bl
      subst h1; subst h2
      refine .inl ⟨rfl, ?_⟩
      have q : decide ((V.bl i) = V.bl j) = decide (i = j) := by simp
      rw [q]
      exact here k R (Dq.bl _) w
    | _ => exact .inr (gen w)
  | _ => exact .inr (gen w)
def dEq : DOp := fun d e P => dEqB (fun b => b) d e P
def dNe : DOp := fun d e P => dEqB (fun b => !b) d e P
theorem op_dEq (hu : X.A.units + 64 < cLine) : DopOk J X (compareOp .Eq) dEq := ⟨_, opr_or op_eq (op_eqD hu), fun n σ H H0 ρ x y d e P Q R hd he w k => eq_ready (g := fun b => b) R hd he w k⟩
theorem op_dNe (hu : X.A.units + 64 < cLine) : DopOk J X (compareOp .NotEq) dNe := ⟨_, opr_or op_ne (op_neD hu), fun n σ H H0 ρ x y d e P Q R hd he w k => eq_ready (g := fun b => !b) R hd he w k⟩
/-- is None -/
def isNon : D → Bool
  | .none => true
  | _ => false
def dIs (g : Bool → Bool) : DOp := fun d e P => match e with
  | .none => P (.da (.bool (g (isNon d))))
  | _ => False
theorem isNon_v {K : PySem.W.Frag} {H : Hp} {x : V} {d : D} (h : Dq K H x d) : decide (x = .non) = isNon d := by
  cases h <;> rfl
theorem op_dIs : DopOk J X (compareOp .Is) (dIs fun b => b) := ⟨_, op_isN, fun n σ H H0 ρ x y d e P Q R hd he w k => by
  cases e with
  | none =>
    have w' : P (.da (.bool (isNon d))) := w
    rw [← isNon_v (hd.at R.sub)] at w'
    exact ⟨he.non, here k R (Dq.bl _) w'⟩
  | _ => exact w.elim⟩
theorem op_dIsN : DopOk J X (compareOp .IsNot) (dIs fun b => !b) := ⟨_, op_notN, fun n σ H H0 ρ x y d e P Q R hd he w k => by
  cases e with
  | none =>
    have w' : P (.da (.bool (!isNon d))) := w
    rw [← isNon_v (hd.at R.sub)] at w'
    exact ⟨he.non, here k R (Dq.bl _) w'⟩
  | _ => exact w.elim⟩
/-- in -/
def flatD : D → Bool
  | .none => true
  | .bool _ => true
  | .int _ => true
  | .str _ => true
  | _ => false
def inD (x : D) (ds : List D) : Bool := ds.any fun y => PyData.eqv y x
theorem flat_v {K : PySem.W.Frag} {H : Hp} {x : V} {d : D} (h : Dq K H x d) (f : flatD d = true) : flatV x = true := by
  cases h <;> first | rfl | cases f
theorem eqV_v {K : PySem.W.Frag} {H : Hp} {x y : V} {d e : D} (h : Dq K H x d) (h' : Dq K H y e) (f : flatD d = true) (f' : flatD e = true) : eqV x y = PyData.eqv d e := by
  cases h <;> first | (cases h' <;> first | rfl | cases f') | cases f
theorem flats_v {K : PySem.W.Frag} {H : Hp} : ∀ {ds : List D} {xs : List V}, DqAll K H xs ds → ds.all flatD = true → xs.all flatV = true
  | [], _, h, _ => by cases h; rfl
  | d :: ds, _, h, f => by
    cases h with
    | cons h1 h2 =>
      rw [List.all_cons, Bool.and_eq_true] at f ⊢
      exact ⟨flat_v h1 f.1, flats_v h2 f.2⟩
theorem inV_v {K : PySem.W.Frag} {H : Hp} {x : V} {d : D} (h : Dq K H x d) (fx : flatD d = true) : ∀ {ds : List D} {xs : List V}, DqAll K H xs ds → ds.all flatD = true → inV x xs = inD d ds
  | [], _, h, _ => by cases h; rfl
  | e :: ds, _, hs, f => by
    cases hs with
    | cons h1 h2 =>
      rw [List.all_cons, Bool.and_eq_true] at f
      have ih := inV_v h fx h2 f.2
      show (eqV _ x || inV x _) = (PyData.eqv e d || inD d ds)
      rw [ih, eqV_v h1 h f.1 fx]
def dIn (g : Bool → Bool) : DOp := fun d e P => match e with
  | .str y => ∃ x, d = .str x ∧ P (.da (.bool (g (!(Builtin.Str.occurrences y x 0 y.length 1).isEmpty))))
  | .tuple ds => flatD d = true ∧ ds.all flatD = true ∧ P (.da (.bool (g (inD d ds))))
  | .list ds => flatD d = true ∧ ds.all flatD = true ∧ P (.da (.bool (g (inD d ds))))
  | _ => False
theorem in_ready {K : PySem.W.Frag} {g : Bool → Bool} {n : En} {σ : L2.St} {H H0 : Hp} {ρ : List Sl} {x y : V} {d e : D} {P : Sl → Prop} {Q : VK} (R : Rp K J n σ H H0 ρ) (hd : Vw K H H0 x d) (he : Vw K H H0 y e) (w : dIn g d e P)
    (k : ∀ v H' H0' s, Rp K J n σ H' H0' ρ → Same H0 H0' → ResOk K n σ ρ H' H0' v s → P s → Q v H') :
    (∃ i j, x = .str i ∧ y = .str j ∧ Q (.bl (g (!(Builtin.Str.occurrences j i 0 j.length 1).isEmpty))) H) ∨
    (∃ p xs, y = .ref p ∧ (SqL K H p xs ∨ SqT K H p xs) ∧ flatV x = true ∧ xs.all flatV = true ∧ Q (.bl (g (inV x xs))) H) := by
  have hx := hd.at R.sub
  cases e with
  | str j =>
    obtain ⟨i, rfl, w⟩ := w
    exact .inl ⟨i, j, hd.str, he.str, here k R (Dq.bl _) w⟩
  | tuple ds =>
    obtain ⟨p, xs, rfl, s1, m1⟩ := he.tup
    have m2 := dpa_mono R.sub ds xs m1
    refine .inr ⟨p, xs, rfl, .inr (same_t R.sub s1), flat_v hx w.1, flats_v m2 w.2.1, ?_⟩
    rw [inV_v hx w.1 m2 w.2.1]
    exact here k R (Dq.bl _) w.2.2
  | list ds =>
    obtain ⟨p, xs, rfl, s1, m1⟩ := he.lst R.sub
    have m2 := dpa_mono R.sub ds xs m1
    refine .inr ⟨p, xs, rfl, .inl (s1), flat_v hx w.1, flats_v m2 w.2.1, ?_⟩
    rw [inV_v hx w.1 m2 w.2.1]
    exact here k R (Dq.bl _) w.2.2
  | _ => exact w.elim
theorem op_dIn : DopOk J X (compareOp .In) (dIn fun b => b) := ⟨_, opr_or op_in_str op_in_seq, fun n σ H H0 ρ x y d e P Q R hd he w k => in_ready (g := fun b => b) R hd he w k⟩
theorem op_dNotIn : DopOk J X (compareOp .NotIn) (dIn fun b => !b) := ⟨_, opr_or op_notIn_str op_notIn_seq, fun n σ H H0 ρ x y d e P Q R hd he w k => in_ready (g := fun b => !b) R hd he w k⟩

/-! ### minus; an item; a slice -/
def qNeg (q : QD) : QD := fun ρ P => q ρ fun d ρ' => ∃ i, d = .int i ∧ P (.int (-i)) ρ'
theorem pd_neg {q : QD} (h : PD J X a q) : PD J X (.UnaryOp .USub a pos) (qNeg q) := pe_mono (pe_un un_neg h) fun σ H Q ⟨n, H0, ρ, P, R, w, k⟩ => ⟨n, H0, ρ, _, R, w, fun x H1 H01 d ρ1 R1 S1 hd ⟨i, ei, w1⟩ => by
  subst ei
  exact ⟨i, dp_int hd, k _ H1 H01 _ ρ1 R1 S1 (.int _) w1⟩⟩
def dIx : DOp := fun d e P => match d, e with
  | .tuple ds, .int i => ∃ x, atI ds i = some x ∧ P (.da x)
  | .list ds, .int i => ∃ x, atI ds i = some x ∧ P (.da x)
  | .str s, .int i => s.length ≤ 100000 ∧ ∃ c, atI s.cps.toList i = some c ∧ P (.da (.str ⟨#[c]⟩))
  | _, _ => False
theorem atI_v {K : PySem.W.Frag} {H : Hp} {ds : List D} {xs : List V} {i : Int} {x : D} (h : DqAll K H xs ds) (e : atI ds i = some x) : ∃ v, atI xs i = some v ∧ Dq K H v x := by
  unfold atI at e ⊢
  rw [dpa_len h]
  cases z : ixN ds.length i with
  | none => rw [z] at e; cases e
  | some j =>
    rw [z] at e
    exact dpa_get' h e
theorem opis_Ix {K : PySem.W.Frag} : OpIs K J (rIx K) dIx := fun n σ H H0 ρ x y d e P Q R hd he w k => by
  cases d with
  | tuple ds =>
    cases e with
    | int i =>
      obtain ⟨z, h1, h2⟩ := w
      obtain ⟨p, xs, rfl, s1, m1⟩ := hd.tup
      obtain ⟨v, q1, q2⟩ := atI_v m1 h1
      exact .inr (.inl ⟨p, xs, i, v, rfl, he.int, same_t R.sub s1, q1, here k R q2 h2⟩)
    | _ => exact w.elim
  | list ds =>
    cases e with
    | int i =>
      obtain ⟨z, h1, h2⟩ := w
      obtain ⟨p, xs, rfl, s1, m1⟩ := hd.lst R.sub
      obtain ⟨v, q1, q2⟩ := atI_v m1 h1
      exact .inl ⟨p, xs, i, v, rfl, he.int, s1, q1, here k R q2 h2⟩
    | _ => exact w.elim
  | str s =>
    cases e with
    | int i =>
      obtain ⟨h0, c, h1, h2⟩ := w
      exact .inr (.inr ⟨s, i, c, hd.str, he.int, Nat.le_trans h0 (by decide), h1, here k R (Dq.str _) h2⟩)
    | _ => exact w.elim
  | _ => exact w.elim
theorem pr_ix {qa qb : QD} (ha : PD J X a qa) (hb : PV J X b qb) (hs : PlainIx b) : PR J X (.Subscript a b pos) (qBin dIx qa qb) := pe_mono (pe_ix ix_seq ha hb hs) (bin_mono opis_Ix)
theorem pr_ixN {i : Nat} {qb : QD} (ha : PE X a (tVar i)) (hb : PV J X b qb) (hs : PlainIx b) : PR J X (.Subscript a b pos) (qBinM dIx i qb) := pe_mono (pe_ix ix_seq ha hb hs) (binM_mono opis_Ix)

abbrev QO := List Sl → (Option Int → List Sl → Prop) → Prop
def tO (K : PySem.W.Frag) (J : Jr) (q : QO) : TO := fun σ H Q => ∃ (n : En) (H0 : Hp) (ρ : List Sl) (P : Option Int → List Sl → Prop), Rp K J n σ H H0 ρ ∧ q ρ P ∧
  ∀ o H' H0' ρ', Rp K J n σ H' H0' ρ' → Same H0 H0' → P o ρ' → Q o H'
theorem po_mono {o : Option Expr} {t t' : TO} (h : PO X o t) (i : ∀ σ H Q, t' σ H Q → t σ H Q) : PO X o t' := ⟨fun pins s σ H Q I w => h.run pins s σ H Q I (i _ _ _ w)⟩
def qO0 : QO := fun ρ P => P none ρ
def qO1 (q : QD) : QO := fun ρ P => q ρ fun d ρ' => ∃ i, d = .int i ∧ P (some i) ρ'
theorem pod_none : PO X none (tO X.K J qO0) := po_mono po_none fun σ H Q ⟨n, H0, ρ, P, R, w, k⟩ => k none H H0 ρ R (.refl _) w
theorem pod_some {q : QD} (h : PD J X e q) : PO X (some e) (tO X.K J (qO1 q)) := po_mono (po_some h) fun σ H Q ⟨n, H0, ρ, P, R, w, k⟩ => ⟨n, H0, ρ, _, R, w, fun x H1 H01 d ρ1 R1 S1 hd ⟨i, ei, w1⟩ => by
  subst ei
  exact ⟨i, dp_int hd, k _ H1 H01 ρ1 R1 S1 w1⟩⟩
def cutD {α : Type} (ds : List α) (lo hi : Option Int) : List α := (ds.drop (HT.sIx ds.length 0 lo)).take (HT.sIx ds.length ds.length hi - HT.sIx ds.length 0 lo)
def dSl (d : D) (lo hi : Option Int) (P : Sl → Prop) : Prop := match d with
  | .tuple ds => P (.da (.tuple (cutD ds lo hi)))
  | .list ds => P (.ow (cutD ds lo hi))
  | .str z => z.length ≤ sizeLine ∧ P (.da (.str (cutS z lo hi)))
  | _ => False
def rSl3 (K : PySem.W.Frag) : V → Option Int → Option Int → Hp → VK → Prop := fun x lo hi H Q => rSlT3 K x lo hi H Q
where rSlT3 (K : PySem.W.Frag) : V → Option Int → Option Int → Hp → VK → Prop := fun x lo hi H Q => rSlA K x lo hi H Q ∨ (rSlL K x lo hi H Q ∨ rSlS x lo hi H Q)
theorem sl_3 : SlR X (rSl3 X.K) := SlR.or sl_tupA (SlR.or sl_list sl_str)
theorem cut_v {K : PySem.W.Frag} {H : Hp} {ds : List D} {xs : List V} {lo hi : Option Int} (h : DqAll K H xs ds) : DqAll K H (cutV xs lo hi) (cutD ds lo hi) := by
  unfold cutV cutD
  rw [dpa_len h]
  exact dpa_take _ (dpa_drop _ h)
theorem sl_ready {K : PySem.W.Frag} {n : En} {σ : L2.St} {H H0 : Hp} {ρ : List Sl} {x : V} {d : D} {lo hi : Option Int} {P : Sl → Prop} {Q : VK} (R : Rp K J n σ H H0 ρ) (hd : Vw K H H0 x d) (w : dSl d lo hi P)
    (k : ∀ v H' H0' s, Rp K J n σ H' H0' ρ → Same H0 H0' → ResOk K n σ ρ H' H0' v s → P s → Q v H') : rSl3 K x lo hi H Q := by
  cases d with
  | tuple ds =>
    obtain ⟨p, xs, rfl, s1, m1⟩ := hd.tup
    refine .inl ⟨p, xs, rfl, same_t R.sub s1, fun z => ?_, fun _ q hq => ?_⟩
    · have e : cutD ds lo hi = ds := by
        unfold cutD
        rw [← dpa_len m1, z.1, z.2, List.drop_zero, Nat.sub_zero, dpa_len m1]
        exact List.take_length
      refine k _ H H0 (.da (.tuple (cutD ds lo hi))) R (.refl _) ?_ w
      rw [e]
      exact .tup s1 m1
    · obtain ⟨r1, r2, r3⟩ := R.newT hq (cut_v (lo := lo) (hi := hi) m1)
      exact k _ _ _ _ r1 r2 r3 w
  | list ds =>
    obtain ⟨p, xs, rfl, s1, m1⟩ := hd.lst R.sub
    refine .inr (.inl ⟨p, xs, rfl, s1, fun q hq => ?_⟩)
    obtain ⟨r1, r2⟩ := R.newL hq (cut_v (lo := lo) (hi := hi) m1)
    exact k _ _ _ _ r1 (.refl _) r2 w
  | str s => exact .inr (.inr ⟨s, hd.str, w.1, here k R (Dq.str _) w.2⟩)
  | _ => exact w.elim
def qSl (qa : QD) (ql qh : QO) : QR := fun ρ P => qa ρ fun d ρ1 => ql ρ1 fun lo ρ2 => qh ρ2 fun hi ρ3 => dSl d lo hi fun s => P s ρ3
def qSlN (i : Nat) (ql qh : QO) : QR := fun ρ P => known ρ i ∧ ql ρ fun lo ρ2 => qh ρ2 fun hi ρ3 => seeD ρ3[i]? fun d => dSl d lo hi fun s => P s ρ3
theorem pr_sl {qa : QD} {ql qh : QO} {lo hi : Option Expr} {p2 : Pos} (ha : PD J X a qa) (hl : PO X lo (tO X.K J ql)) (hh : PO X hi (tO X.K J qh)) : PR J X (.Subscript a (.Slice lo hi none p2) pos) (qSl qa ql qh) :=
  pe_mono (pe_slice sl_3 ha hl hh) fun σ H Q ⟨n, H0, ρ, P, R, w, k⟩ => ⟨n, H0, ρ, _, R, w, fun x H1 H01 d ρ1 R1 S1 hd w1 => ⟨n, H01, ρ1, _, R1, w1, fun l H2 H02 ρ2 R2 S2 w2 => ⟨n, H02, ρ2, _, R2, w2, fun u H3 H03 ρ3 R3 S3 w3 =>
    sl_ready R3 (.of (dp_mono (S2.trans S3) d x hd)) w3 fun v H' H0' s R' S' hs hp => k v H' H0' s ρ3 R' (((S1.trans S2).trans S3).trans S') hs hp⟩⟩⟩
theorem pr_slN {i : Nat} {ql qh : QO} {lo hi : Option Expr} {p2 : Pos} (ha : PE X a (tVar i)) (hl : PO X lo (tO X.K J ql)) (hh : PO X hi (tO X.K J qh)) : PR J X (.Subscript a (.Slice lo hi none p2) pos) (qSlN i ql qh) :=
  pe_mono (pe_slice sl_3 ha hl hh) fun σ H Q ⟨n, H0, ρ, P, R, w, k⟩ => by
    obtain ⟨x, hx⟩ := R.hasV w.1
    exact ⟨x, hx, n, H0, ρ, _, R, w.2, fun l H2 H02 ρ2 R2 S2 w2 => ⟨n, H02, ρ2, _, R2, w2, fun u H3 H03 ρ3 R3 S3 w3 => by
      obtain ⟨x', d, h1, h2, h3⟩ := R3.see w3
      rw [hx] at h1
      cases h1
      exact sl_ready R3 h2 h3 fun v H' H0' s R' S' hs hp => k v H' H0' s ρ3 R' ((S2.trans S3).trans S') hs hp⟩⟩

/-! ### calls of built-ins: the last argument may be a list that stands -/
def tLV (K : PySem.W.Frag) (J : Jr) (m : Nat) (q : QL) : TA := fun σ H Q => ∃ (n : En) (H0 : Hp) (ρ : List Sl) (P : List D → List Sl → Prop), Rp K J n σ H H0 ρ ∧ q ρ P ∧
  ∀ vs H' H0' ds ρ', Rp K J n σ H' H0' ρ' → Same H0 H0' → Paired (fun v d => Vw K H' H0' v d) vs ds → ds.length = m → P ds ρ' → Q vs H'
abbrev PLV (J : Jr) (X : Cx) (es : List Expr) (m : Nat) (q : QL) : Prop := PA X es (tLV X.K J m q)
theorem plv_one {qa : QD} (ha : PV J X e qa) (hs : starEach [e] X.env = (false, eval e X.env) :: starEach [] X.env := by rfl) : PLV J X [e] 1 (qCons qa qNil) :=
  pa_mono (pa_cons ha pa_nil hs) fun σ H Q ⟨n, H0, ρ, P, R, w, k⟩ => ⟨n, H0, ρ, _, R, w, fun x H1 H01 d ρ1 R1 S1 hd w1 => k [x] H1 H01 [d] ρ1 R1 S1 (.cons hd .nil) rfl w1⟩
theorem vw_mono {K : PySem.W.Frag} {H' H0 H0' : Hp} {v : V} {d : D} (s0 : Same H0 H0') (h : Dq K H0 v d) : Vw K H' H0' v d := .inl (dp_mono s0 d v h)
theorem plv_cons {m : Nat} {qa : QD} {qr : QL} (ha : PD J X e qa) (hr : PLV J X es m qr) (hs : starEach (e :: es) X.env = (false, eval e X.env) :: starEach es X.env := by rfl) : PLV J X (e :: es) (m + 1) (qCons qa qr) :=
  pa_mono (pa_cons ha hr hs) fun σ H Q ⟨n, H0, ρ, P, R, w, k⟩ => ⟨n, H0, ρ, _, R, w, fun x H1 H01 d ρ1 R1 S1 hd w1 => ⟨n, H01, ρ1, _, R1, w1, fun xs H2 H02 ds ρ2 R2 S2 hds hl w2 =>
    k (x :: xs) H2 H02 (d :: ds) ρ2 R2 (S1.trans S2) (.cons (vw_mono S2 hd) hds) (by rw [List.length_cons, hl]) w2⟩⟩
abbrev DCl := List D → (Sl → Prop) → Prop
def ClIs (K : PySem.W.Frag) (J : Jr) (r : List V → Hp → VK → Prop) (g : DCl) : Prop := ∀ n σ H H0 ρ vs ds P (Q : VK), Rp K J n σ H H0 ρ → Paired (fun v d => Vw K H H0 v d) vs ds → g ds P →
  (∀ v H' H0' s, Rp K J n σ H' H0' ρ → Same H0 H0' → ResOk K n σ ρ H' H0' v s → P s → Q v H') → r vs H Q
def DclOk (J : Jr) (X : Cx) (f : Value) (g : DCl) : Prop := ∃ r, CallR X f r ∧ ClIs X.K J r g
def qCl (g : DCl) (qa : QL) : QR := fun ρ P => qa ρ fun ds ρ' => g ds fun s => P s ρ'
theorem cl_mono {r : List V → Hp → VK → Prop} {g : DCl} {m : Nat} {qa : QL} (hr : ClIs X.K J r g) : ∀ σ H Q, tR X.K J (qCl g qa) σ H Q → tCB r (tLV X.K J m qa) σ H Q := fun σ H Q ⟨n, H0, ρ, P, R, w, k⟩ =>
  ⟨n, H0, ρ, _, R, w, fun vs H1 H01 ds ρ1 R1 S1 hd hl w1 => hr n σ H1 H01 ρ1 vs ds _ Q R1 hd w1 fun v H' H0' s R' S' hs hp => k v H' H0' s ρ1 R' (S1.trans S') hs hp⟩
theorem pr_callB {id : String} {g : DCl} {m : Nat} {qa : QL} {x : Str} {p : Pos} (hc : DclOk J X (.builtin id) g) (hg : Gl X x) (hm : X.mg x = none) (hv : bootBuiltins x = some (.builtin id)) (ha : PLV J X (e :: es) m qa)
    (hn : x ≠ "__name__" := by decide) (hdb : (x == ("__debug__" : Str)) = false := by decide)
    (he : starEach (e :: es) X.env = (false, eval e X.env) :: starEach es X.env := by rfl) (hpl : (backTo pos (starEach es X.env)).any (·.1) = false := by rfl) : PR J X (.Call (.Name x p) (e :: es) [] pos) (qCl g qa) := by
  obtain ⟨r, h1, h2⟩ := hc
  exact pe_mono (pe_callB h1 hg hm hv ha hn hdb he hpl) (cl_mono h2)
theorem pr_callTy {T : String} {g : DCl} {m : Nat} {qa : QL} {x : Str} {p : Pos} (hc : DclOk J X (.type T) g) (hg : Gl X x) (hm : X.mg x = none) (hv : bootBuiltins x = some (.type T)) (ha : PLV J X (e :: es) m qa)
    (hn : x ≠ "__name__" := by decide) (hdb : (x == ("__debug__" : Str)) = false := by decide)
    (he : starEach (e :: es) X.env = (false, eval e X.env) :: starEach es X.env := by rfl) (hpl : (backTo pos (starEach es X.env)).any (·.1) = false := by rfl) : PR J X (.Call (.Name x p) (e :: es) [] pos) (qCl g qa) := by
  obtain ⟨r, h1, h2⟩ := hc
  exact pe_mono (pe_callTy h1 hg hm hv ha hn hdb he hpl) (cl_mono h2)
theorem clr_or {f : Value} {r r' : List V → Hp → VK → Prop} (h : CallR X f r) (h' : CallR X f r') : CallR X f (fun vs H Q => r vs H Q ∨ r' vs H Q) :=
  fun pins s σ H xs us Q I rx w => w.elim (h pins s σ H xs us Q I rx) (h' pins s σ H xs us Q I rx)
/-- len -/
def cLen : DCl := fun ds P => match ds with
  | [.str x] => x.length ≤ sizeLine ∧ P (.da (.int x.length))
  | [.list x] => P (.da (.int x.length))
  | [.tuple x] => P (.da (.int x.length))
  | _ => False
theorem paired1 {α β : Type} {p : α → β → Prop} : ∀ {xs : List α} {y : β}, Paired p xs [y] → ∃ x, xs = [x] ∧ p x y
  | _, _, .cons h .nil => ⟨_, rfl, h⟩
theorem paired2 {α β : Type} {p : α → β → Prop} : ∀ {xs : List α} {y z : β}, Paired p xs [y, z] → ∃ u v, xs = [u, v] ∧ p u y ∧ p v z
  | _, _, _, .cons h (.cons h' .nil) => ⟨_, _, rfl, h, h'⟩
theorem cl_len : DclOk J X (.builtin "len") cLen := ⟨_, call_len, fun n σ H H0 ρ vs ds P Q R hp w k => by
  match ds, w with
  | [.str x], w =>
    obtain ⟨v, rfl, h⟩ := paired1 hp
    have e := h.str
    subst e
    exact ⟨_, _, rfl, ⟨w.1, rfl⟩, here k R (Dq.int _) w.2⟩
  | [.list x], w =>
    obtain ⟨v, rfl, h⟩ := paired1 hp
    obtain ⟨p, xs, rfl, s1, m1⟩ := h.lst R.sub
    exact ⟨_, _, rfl, .inl ⟨xs, s1, (dpa_len m1).symm⟩, here k R (Dq.int _) w⟩
  | [.tuple x], w =>
    obtain ⟨v, rfl, h⟩ := paired1 hp
    obtain ⟨p, xs, rfl, s1, m1⟩ := h.tup
    exact ⟨_, _, rfl, .inr ⟨xs, same_t R.sub s1, (dpa_len m1).symm⟩, here k R (Dq.int _) w⟩⟩
/-- abs, int -/
def cAbs : DCl := fun ds P => match ds with
  | [.int i] => P (.da (.int (if i < 0 then -i else i)))
  | _ => False
theorem cl_abs : DclOk J X (.builtin "abs") cAbs := ⟨_, call_abs, fun n σ H H0 ρ vs ds P Q R hp w k => by
  match ds, w with
  | [.int i], w =>
    obtain ⟨v, rfl, h⟩ := paired1 hp
    have e := h.int
    subst e
    exact ⟨i, rfl, here k R (Dq.int _) w⟩⟩
def cInt : DCl := fun ds P => match ds with
  | [.int i] => P (.da (.int i))
  | [.bool k] => P (.da (.int (if k then 1 else 0)))
  | _ => False
theorem cl_int : DclOk J X (.type "int") cInt := ⟨_, call_int1, fun n σ H H0 ρ vs ds P Q R hp w k => by
  match ds, w with
  | [.int i], w =>
    obtain ⟨v, rfl, h⟩ := paired1 hp
    have e := h.int
    subst e
    exact .inl ⟨i, rfl, here k R (Dq.int _) w⟩
  | [.bool i], w =>
    obtain ⟨v, rfl, h⟩ := paired1 hp
    have e := h.bl
    subst e
    exact .inr ⟨i, rfl, here k R (Dq.int _) w⟩⟩
def cMin : DCl := fun ds P => match ds with
  | [.int i, .int j] => P (.da (.int (if j < i then j else i)))
  | _ => False
def cMax : DCl := fun ds P => match ds with
  | [.int i, .int j] => P (.da (.int (if j > i then j else i)))
  | _ => False
theorem cl_min (hc : X.calm = true) : DclOk J X (.builtin "min") cMin := ⟨_, call_min2 hc, fun n σ H H0 ρ vs ds P Q R hp w k => by
  match ds, w with
  | [.int i, .int j], w =>
    obtain ⟨u, v, rfl, h, h'⟩ := paired2 hp
    have e := h.int
    have e' := h'.int
    subst e; subst e'
    exact ⟨i, j, rfl, here k R (Dq.int _) w⟩⟩
theorem cl_max (hc : X.calm = true) : DclOk J X (.builtin "max") cMax := ⟨_, call_max2 hc, fun n σ H H0 ρ vs ds P Q R hp w k => by
  match ds, w with
  | [.int i, .int j], w =>
    obtain ⟨u, v, rfl, h, h'⟩ := paired2 hp
    have e := h.int
    have e' := h'.int
    subst e; subst e'
    exact ⟨i, j, rfl, here k R (Dq.int _) w⟩⟩
def cGcd : DCl := fun ds P => match ds with
  | [.int i, .int j] => P (.da (.int (Int.gcd i j)))
  | _ => False
/-- tuple, list of a row -/
def cTuple : DCl := fun ds P => match ds with
  | [.list x] => P (.da (.tuple x))
  | [.tuple x] => P (.da (.tuple x))
  | _ => False
theorem cl_tuple : DclOk J X (.type "tuple") cTuple := ⟨_, call_tuple_of, fun n σ H H0 ρ vs ds P Q R hp w k => by
  match ds, w with
  | [.list x], w =>
    obtain ⟨v, rfl, h⟩ := paired1 hp
    obtain ⟨p, xs, rfl, s1, m1⟩ := h.lst R.sub
    refine ⟨p, xs, rfl, .inl ⟨s1, fun l hl => ?_⟩⟩
    obtain ⟨r1, r2, r3⟩ := R.newT hl m1
    exact k _ _ _ _ r1 r2 r3 w
  | [.tuple x], w =>
    obtain ⟨v, rfl, h⟩ := paired1 hp
    obtain ⟨p, xs, rfl, s1, m1⟩ := h.tup
    exact ⟨p, xs, rfl, .inr ⟨same_t R.sub s1, here k R (Dq.tup s1 m1) w⟩⟩⟩
def cList : DCl := fun ds P => match ds with
  | [.list x] => P (.ow x)
  | [.tuple x] => P (.ow x)
  | _ => False
theorem cl_list : DclOk J X (.type "list") cList := ⟨_, call_list_of, fun n σ H H0 ρ vs ds P Q R hp w k => by
  match ds, w with
  | [.list x], w =>
    obtain ⟨v, rfl, h⟩ := paired1 hp
    obtain ⟨p, xs, rfl, s1, m1⟩ := h.lst R.sub
    refine ⟨p, xs, rfl, .inl (s1), fun l hl => ?_⟩
    obtain ⟨r1, r2⟩ := R.newL hl m1
    exact k _ _ _ _ r1 (.refl _) r2 w
  | [.tuple x], w =>
    obtain ⟨v, rfl, h⟩ := paired1 hp
    obtain ⟨p, xs, rfl, s1, m1⟩ := h.tup
    refine ⟨p, xs, rfl, .inr (same_t R.sub s1), fun l hl => ?_⟩
    obtain ⟨r1, r2⟩ := R.newL hl m1
    exact k _ _ _ _ r1 (.refl _) r2 w⟩
/-- isinstance(e, T), T a built-in class -/
def tyD : D → String
  | .none => "NoneType"
  | .bool _ => "bool"
  | .int _ => "int"
  | .str _ => "str"
  | .list _ => "list"
  | .tuple _ => "tuple"
  | .dict _ => "dict"
theorem ty_v {K : PySem.W.Frag} {H : Hp} {x : V} {d : D} (h : Dq K H x d) : TyX K H x (.type (tyD d)) := by
  cases h with
  | non => exact .base .non
  | bl b => exact .base (.bl b)
  | int i => exact .base (.int i)
  | str x => exact .base (.str x)
  | lst h _ =>
    rcases h with (h | ⟨o, h⟩) | ⟨o, its, n, h1, h2, _⟩
    · exact .base (.lst h)
    · exact .base (.frz h)
    · exact .kList h1 h2
  | tup h _ =>
    rcases h with (h | ⟨o, h⟩) | ⟨o, its, n, h1, h2, _⟩
    · exact .base (.tup h)
    · exact .fTuple h
    · exact .kTuple h1 h2
def qIsi (T : String) (q : QD) : QD := fun ρ P => q ρ fun d ρ' => ∃ r, kitB (tyD d) T = some r ∧ P (.bool r) ρ'
theorem pd_isi {T : String} {q : QD} {x y : Str} {p p2 : Pos} (hg : Gl X x) (hm : X.mg x = none) (hv : bootBuiltins x = some (.builtin "isinstance")) (hg2 : Gl X y) (hm2 : X.mg y = none) (hv2 : bootBuiltins y = some (.type T)) (ha : PV J X e q)
    (hn : x ≠ "__name__" := by decide) (hdb : (x == ("__debug__" : Str)) = false := by decide) (hn2 : y ≠ "__name__" := by decide) (hdb2 : (y == ("__debug__" : Str)) = false := by decide)
    (he1 : starEach [e, .Name y p2] X.env = (false, eval e X.env) :: starEach [.Name y p2] X.env := by rfl) (he2 : starEach [.Name y p2] X.env = (false, eval (.Name y p2) X.env) :: starEach [] X.env := by rfl)
    (hpl : (backTo pos (starEach [.Name y p2] X.env)).any (·.1) = false := by rfl) (hcd : (y == ("__classdict__" : Str)) = false := by decide) :
    PD J X (.Call (.Name x p) [e, .Name y p2] [] pos) (qIsi T q) :=
  pe_mono (pe_callB call_isi hg hm hv (pa_cons ha (pa_cons (pe_bltn hg2 hm2 hv2 (v := .ty T) rfl hn2 hdb2) pa_nil he2) he1) hn hdb he1 hpl) fun σ H Q ⟨n, H0, ρ, P, R, w, k⟩ =>
    ⟨n, H0, ρ, _, R, w, fun v H1 H01 d ρ1 R1 S1 hd ⟨r, h1, w1⟩ => ⟨v, .ty T, .type (tyD d), .type T, r, rfl, .ty T, ty_v (hd.at R1.sub), kit_ty h1, k _ H1 H01 _ ρ1 R1 S1 (.bl _) w1⟩⟩
end
end Zd

set_option Elab.async false
set_option linter.all false
set_option maxRecDepth 100000
set_option maxHeartbeats 4000000
namespace Zd
open PySem PySem.Spec PyProof.Rows L2
/-! ### calls of the text's own defs -/
inductive A where
  | d (x : D)
  | n (i : Nat)
inductive Ag where
  | d (x : D)
  | j
abbrev QA := List Sl → (List A → List Sl → Prop) → Prop
def ArgOk (K : PySem.W.Frag) (σ : L2.St) (H0 : Hp) (v : V) : A → Prop
  | .d x => Dq K H0 v x
  | .n i => σ[i]? = some (some v)
def tA (K : PySem.W.Frag) (J : Jr) (q : QA) : TA := fun σ H Q => ∃ (n : En) (H0 : Hp) (ρ : List Sl) (P : List A → List Sl → Prop), Rp K J n σ H H0 ρ ∧ q ρ P ∧
  ∀ vs H' H0' as ρ', Rp K J n σ H' H0' ρ' → Same H0 H0' → Paired (ArgOk K σ H0') vs as → P as ρ' → Q vs H'
abbrev PAa (J : Jr) (X : Cx) (es : List Expr) (q : QA) : Prop := PA X es (tA X.K J q)
def resv (ρ : List Sl) : List A → Option (List Ag)
  | [] => some []
  | .d x :: r => (resv ρ r).map (Ag.d x :: ·)
  | .n i :: r => match ρ[i]? with
    | some (.da x) => (resv ρ r).map (Ag.d x :: ·)
    | some (.ow ds) => (resv ρ r).map (Ag.d (.list ds) :: ·)
    | some .ja => (resv ρ r).map (Ag.j :: ·)
    | _ => none
def frzs (ρ : List Sl) : List A → List Sl
  | [] => ρ
  | .d _ :: r => frzs ρ r
  | .n i :: r => frzs (frz ρ i) r
abbrev PPr := List Ag → (Sl → Prop) → Prop
/-- what is known behind a call: a flat result keeps no list -/
def behind (ρ : List Sl) (as : List A) (P : Sl → List Sl → Prop) (r : Sl) : Prop := match r with
  | .da d => if flatD d = true then P (.da d) ρ else P (.da d) (frzs ρ as)
  | r => P r (frzs ρ as)
/-- a wish that is not looked into till it is applied -/
inductive Key (P : Sl → List Sl → Prop) : Type
  | mk
def hold (P : Sl → List Sl → Prop) (_ : Key P) (ρ : List Sl) (as : List A) : Sl → Prop := behind ρ as P
theorem hold_app (P : Sl → List Sl → Prop) (k : Key P) (ρ : List Sl) (as : List A) (x : Sl) : hold P k ρ as x = behind ρ as P x := rfl
def qCall (pp : PPr) (qa : QA) : QR := fun ρ P => qa ρ fun as ρ' => ∃ gs, resv ρ' as = some gs ∧ pp gs (hold P .mk ρ' as)
def AgOk (K : PySem.W.Frag) (H0 : Hp) (as : List Addr) (jv v : V) : Ag → Prop
  | .d x => Dq K H0 v x
  | .j => v = jv ∧ as ≠ []
/-- a def's promise over data -/
def spD (K : PySem.W.Frag) (J : Jr) (pp : PPr) : Sp := fun vs H Q _ => ∃ (H0 : Hp) (as : List Addr) (jv : V) (gs : List Ag), Same H0 H ∧ (as ≠ [] → J.is as jv H) ∧ (∀ a ∈ as, H0 a = none ∧ H a ≠ none) ∧
  Paired (AgOk K H0 as jv) vs gs ∧ ∃ R : Sl → Prop, pp gs R ∧ ∀ r v H', R r → RetOk K J ⟨H, H0, as, jv⟩ H' v r → Q v H'
section
variable {J : Jr} {K : PySem.W.Frag} {n : En} {σ : L2.St} {H H0 : Hp} {ρ : List Sl}
theorem frz_other (ρ : List Sl) (i j : Nat) (d : D) (h : ρ[j]? = some (.da d)) : (frz ρ i)[j]? = some (.da d) := by
  unfold frz
  cases e : ρ[i]? with
  | none => exact h
  | some s =>
    cases s with
    | ow ds =>
      show (ρ.set i _)[j]? = _
      rw [get_set]
      by_cases q : i = j
      · subst q; rw [e] at h; cases h
      · rw [if_neg q]; exact h
    | _ => exact h
theorem frz_ja (ρ : List Sl) (i j : Nat) (h : ρ[j]? = some .ja) : (frz ρ i)[j]? = some .ja := by
  unfold frz
  cases e : ρ[i]? with
  | none => exact h
  | some s =>
    cases s with
    | ow ds =>
      show (ρ.set i _)[j]? = _
      rw [get_set]
      by_cases q : i = j
      · subst q; rw [e] at h; cases h
      · rw [if_neg q]; exact h
    | _ => exact h
/-- the arguments' lists are data while the callee runs -/
theorem Rp.args (hs : Same H0 H0) : ∀ (as : List A) (ρ : List Sl) (H0 : Hp) (vs : List V) (gs : List Ag), Rp K J n σ H H0 ρ → Paired (ArgOk K σ H0) vs as → resv ρ as = some gs →
    ∃ H0', Same H0 H0' ∧ Rp K J n σ H H0' (frzs ρ as) ∧ Paired (AgOk K H0' n.as n.jv) vs gs := by
  -- first freeze all, then read all
  have step : ∀ (as : List A) (ρ : List Sl) (H0 : Hp), Rp K J n σ H H0 ρ → ∃ H0', Same H0 H0' ∧ Rp K J n σ H H0' (frzs ρ as) := by
    intro as
    induction as with
    | nil => exact fun ρ H0 R => ⟨H0, .refl _, R⟩
    | cons a r ih =>
      intro ρ H0 R
      cases a with
      | d x => exact ih ρ H0 R
      | n i =>
        obtain ⟨H1, S1, R1, _⟩ := R.frz1 i
        obtain ⟨H2, S2, R2⟩ := ih _ H1 R1
        exact ⟨H2, S1.trans S2, R2⟩
  have keepd : ∀ (as : List A) (ρ : List Sl) (j : Nat) (d : D), ρ[j]? = some (.da d) → (frzs ρ as)[j]? = some (.da d) := by
    intro as
    induction as with
    | nil => exact fun ρ j d h => h
    | cons a r ih =>
      intro ρ j d h
      cases a with
      | d x => exact ih ρ j d h
      | n i => exact ih _ j d (frz_other ρ i j d h)
  have keepj : ∀ (as : List A) (ρ : List Sl) (j : Nat), ρ[j]? = some .ja → (frzs ρ as)[j]? = some .ja := by
    intro as
    induction as with
    | nil => exact fun ρ j h => h
    | cons a r ih =>
      intro ρ j h
      cases a with
      | d x => exact ih ρ j h
      | n i => exact ih _ j (frz_ja ρ i j h)
  have keepo : ∀ (as : List A) (ρ : List Sl) (j : Nat) (ds : List D), ρ[j]? = some (.ow ds) → (frzs ρ as)[j]? = some (.ow ds) ∨ (frzs ρ as)[j]? = some (.da (.list ds)) := by
    intro as
    induction as with
    | nil => exact fun ρ j ds h => .inl h
    | cons a r ih =>
      intro ρ j ds h
      cases a with
      | d x => exact ih ρ j ds h
      | n i =>
        by_cases q : i = j
        · subst q
          have e : (frz ρ i)[i]? = some (.da (.list ds)) := by
            unfold frz
            rw [h]
            show (ρ.set i _)[i]? = _
            rw [get_set, if_pos rfl, if_pos (List.getElem?_eq_some_iff.mp h).1]
          exact .inr (keepd r _ i _ e)
        · have e : (frz ρ i)[j]? = some (.ow ds) := by
            unfold frz
            cases z : ρ[i]? with
            | none => exact h
            | some s =>
              cases s with
              | ow es =>
                show (ρ.set i _)[j]? = _
                rw [get_set, if_neg q]
                exact h
              | _ => exact h
          exact ih _ j ds e
  have named : ∀ (as : List A) (ρ : List Sl) (j : Nat) (ds : List D), .n j ∈ as → ρ[j]? = some (.ow ds) → (frzs ρ as)[j]? = some (.da (.list ds)) := by
    intro as
    induction as with
    | nil => exact fun ρ j ds h _ => nomatch h
    | cons a r ih =>
      intro ρ j ds hm h
      cases a with
      | d x =>
        rcases List.mem_cons.mp hm with q | q
        · cases q
        · exact ih ρ j ds q h
      | n i =>
        by_cases q : i = j
        · subst q
          refine keepd r _ i _ ?_
          unfold frz
          rw [h]
          show (ρ.set i _)[i]? = _
          rw [get_set, if_pos rfl, if_pos (List.getElem?_eq_some_iff.mp h).1]
        · have hm' : A.n j ∈ r := by
            rcases List.mem_cons.mp hm with w | w
            · cases w; exact absurd rfl q
            · exact w
          refine ih _ j ds hm' ?_
          unfold frz
          cases z : ρ[i]? with
          | none => exact h
          | some s =>
            cases s with
            | ow es =>
              show (ρ.set i _)[j]? = _
              rw [get_set, if_neg q]
              exact h
            | _ => exact h
  intro as ρ H0 vs gs R hp hr
  obtain ⟨H0', S', R'⟩ := step as ρ H0 R
  refine ⟨H0', S', R', ?_⟩
  have all : ∀ (bs : List A), (∀ b ∈ bs, b ∈ as) → ∀ (us : List V) (hs : List Ag), Paired (ArgOk K σ H0) us bs → resv ρ bs = some hs → Paired (AgOk K H0' n.as n.jv) us hs := by
    intro bs
    induction bs with
    | nil =>
      intro _ us hs h1 h2
      cases h1
      cases h2
      exact .nil
    | cons b r ih =>
      intro hm us hs h1 h2
      have hm' : ∀ c ∈ r, c ∈ as := fun c hc => hm c (List.mem_cons_of_mem _ hc)
      cases h1 with
      | @cons v _ vr _ p1 p2 =>
        cases b with
        | d x =>
          unfold resv at h2
          cases e : resv ρ r with
          | none => rw [e] at h2; cases h2
          | some hr =>
            rw [e] at h2
            cases h2
            exact .cons (dp_mono S' x v p1) (ih hm' vr hr p2 e)
        | n i =>
          have p1' : σ[i]? = some (some v) := p1
          unfold resv at h2
          cases z : ρ[i]? with
          | none => rw [z] at h2; cases h2
          | some s =>
            rw [z] at h2
            cases s with
            | un => cases h2
            | da x =>
              cases e : resv ρ r with
              | none => rw [e] at h2; cases h2
              | some hr =>
                rw [e] at h2
                cases h2
                obtain ⟨u, w1, w2⟩ := R'.sl i _ (keepd as ρ i x z)
                rw [p1'] at w1
                cases w1
                exact .cons w2 (ih hm' vr hr p2 e)
            | ow ds =>
              cases e : resv ρ r with
              | none => rw [e] at h2; cases h2
              | some hr =>
                rw [e] at h2
                cases h2
                obtain ⟨u, w1, w2⟩ := R'.sl i _ (named as ρ i ds (hm _ (List.mem_cons_self ..)) z)
                rw [p1'] at w1
                cases w1
                exact .cons w2 (ih hm' vr hr p2 e)
            | ja =>
              cases e : resv ρ r with
              | none => rw [e] at h2; cases h2
              | some hr =>
                rw [e] at h2
                cases h2
                obtain ⟨w1, w2⟩ := R'.sl i _ (keepj as ρ i z)
                rw [p1'] at w1
                cases w1
                exact .cons ⟨rfl, w2⟩ (ih hm' vr hr p2 e)
  exact all as (fun _ h => h) vs gs hp hr
theorem Rp.jarOk (R : Rp K J n σ H H0 ρ) : ∀ a ∈ n.as, H0 a = none ∧ H a ≠ none := fun a ha => ⟨R.jh0 ha, R.hej (R.jdom a ha).2⟩
/-- behind a call -/
theorem Rp.call {H' : Hp} {v : V} {r : Sl} (R : Rp K J n σ H H0 ρ) (h : RetOk K J ⟨H, H0, n.as, n.jv⟩ H' v r) : ∃ H0', Same H0 H0' ∧ Rp K J n σ H' H0' ρ ∧ ResOk K n σ ρ H' H0' v r := by
  obtain ⟨H0', h1, h2, h3, h4, h5, h6⟩ := h
  have h2 : ∀ (a : Addr) (o : HO), a ∉ n.as → H a = some o → H' a = some o := h2
  have h3 : Same H0 H0' := h3
  have h4 : ∀ (a : Addr), H0 a = none → H a ≠ none → H0' a = none := h4
  have h5 : n.as ≠ [] → J.is n.as n.jv H' := h5
  have na : ∀ a, n.He a = none → a ∉ n.as := fun a e ha => (R.jdom a ha).2 e
  refine ⟨H0', h3, ⟨R.len, h1, fun i s e => ?_, R.sep, fun a o ha e => h2 a o ha (R.fr a o ha e), R.base.trans h3, fun a e1 e2 => h4 a (R.fresh a e1 e2) (R.hej e2), h5, R.jdom, R.pin⟩, ?_⟩
  · have q := R.sl i s e
    cases s with
    | un => trivial
    | da d => obtain ⟨u, w1, w2⟩ := q; exact ⟨u, w1, dp_mono h3 d u w2⟩
    | ow ds =>
      obtain ⟨a, xs, w1, w2, w3, w4, w5⟩ := q
      exact ⟨a, xs, w1, h2 a _ (na a w5) w2, dpa_mono h3 ds xs w3, h4 a w4 (by rw [w2]; intro z; cases z), w5⟩
    | ja => exact q
  · cases r with
    | un => exact h6
    | da d => exact h6
    | ow ds =>
      obtain ⟨a, xs, rfl, w2, w3, w4, w5, _⟩ := h6
      have w5 : H a = none := w5
      exact ⟨a, xs, rfl, w2, w3, w4, R.he0 w5, R.new w5⟩
    | ja => exact h6
/-- behind a call with a flat result: all stands as it stood -/
theorem Rp.callF {H' H0f : Hp} {v : V} {r : Sl} {ρf : List Sl} (R : Rp K J n σ H H0 ρ) (Rf : Rp K J n σ H H0f ρf) (h : RetOk K J ⟨H, H0f, n.as, n.jv⟩ H' v r) : Rp K J n σ H' H0 ρ := by
  obtain ⟨H0', h1, h2, h3, h4, h5, h6⟩ := h
  have h2 : ∀ (a : Addr) (o : HO), a ∉ n.as → H a = some o → H' a = some o := h2
  have h5 : n.as ≠ [] → J.is n.as n.jv H' := h5
  have na : ∀ a, n.He a = none → a ∉ n.as := fun a e ha => (R.jdom a ha).2 e
  refine ⟨R.len, fun a o e => ?_, fun i s e => ?_, R.sep, fun a o ha e => h2 a o ha (R.fr a o ha e), R.base, R.fresh, h5, R.jdom, R.pin⟩
  · refine h2 a o (fun ha => ?_) (R.sub a o e)
    rw [R.jh0 ha] at e
    cases e
  · have q := R.sl i s e
    cases s with
    | un => trivial
    | da d => exact q
    | ow ds =>
      obtain ⟨a, xs, w1, w2, w3, w4, w5⟩ := q
      exact ⟨a, xs, w1, h2 a _ (na a w5) w2, w3, w4, w5⟩
    | ja => exact q
theorem flat_any {v : V} {d : D} {H1 : Hp} (h : Dq K H v d) (f : flatD d = true) : Dq K H1 v d := by
  cases d with
  | none => cases h; exact .non
  | bool _ => cases h; exact .bl _
  | int _ => cases h; exact .int _
  | str _ => cases h; exact .str _
  | _ => cases f
end
section
variable {X : Cx} {J : Jr} {e a b c : Expr} {es : List Expr} {pos : Pos}
/-- a slot that may be handed on -/
def given (ρ : List Sl) (i : Nat) : Prop := match ρ[i]? with
  | some (.da _) => True
  | some (.ow _) => True
  | some .ja => True
  | _ => False
def qaNil : QA := fun ρ P => P [] ρ
def qaD (qa : QD) (qr : QA) : QA := fun ρ P => qa ρ fun d ρ1 => qr ρ1 fun as ρ2 => P (.d d :: as) ρ2
def qaN (i : Nat) (qr : QA) : QA := fun ρ P => given ρ i ∧ qr ρ fun as ρ2 => P (.n i :: as) ρ2
theorem paa_nil : PAa J X [] qaNil := pa_mono pa_nil fun σ H Q ⟨n, H0, ρ, P, R, w, k⟩ => k [] H H0 [] ρ R (.refl _) .nil w
theorem arg_mono {K : PySem.W.Frag} {σ : L2.St} {H0 H0' : Hp} (S : Same H0 H0') {v : V} {x : A} (h : ArgOk K σ H0 v x) : ArgOk K σ H0' v x := by
  cases x with
  | d d => exact dp_mono S d v h
  | n i => exact h
theorem paa_d {qa : QD} {qr : QA} (ha : PD J X e qa) (hr : PAa J X es qr) (hs : starEach (e :: es) X.env = (false, eval e X.env) :: starEach es X.env := by rfl) : PAa J X (e :: es) (qaD qa qr) :=
  pa_mono (pa_cons ha hr hs) fun σ H Q ⟨n, H0, ρ, P, R, w, k⟩ => ⟨n, H0, ρ, _, R, w, fun x H1 H01 d ρ1 R1 S1 hd w1 => ⟨n, H01, ρ1, _, R1, w1, fun xs H2 H02 as ρ2 R2 S2 hds w2 =>
    k (x :: xs) H2 H02 (.d d :: as) ρ2 R2 (S1.trans S2) (.cons (dp_mono S2 d x hd) hds) w2⟩⟩
theorem Rp.givenV {K : PySem.W.Frag} {n : En} {σ : L2.St} {H H0 : Hp} {ρ : List Sl} (R : Rp K J n σ H H0 ρ) {i : Nat} (h : given ρ i) : ∃ v, σ[i]? = some (some v) := by
  unfold given at h
  cases e : ρ[i]? with
  | none => rw [e] at h; exact h.elim
  | some s =>
    rw [e] at h
    have q := R.sl i s e
    cases s with
    | un => exact h.elim
    | ja => exact ⟨_, q.1⟩
    | da d => obtain ⟨v, h1, _⟩ := q; exact ⟨v, h1⟩
    | ow ds => obtain ⟨a, xs, h1, _⟩ := q; exact ⟨_, h1⟩
theorem paa_n {i : Nat} {qr : QA} (ha : PE X e (tVar i)) (hr : PAa J X es qr) (hs : starEach (e :: es) X.env = (false, eval e X.env) :: starEach es X.env := by rfl) : PAa J X (e :: es) (qaN i qr) :=
  pa_mono (pa_cons ha hr hs) fun σ H Q ⟨n, H0, ρ, P, R, w, k⟩ => by
    obtain ⟨v, hv⟩ := R.givenV w.1
    exact ⟨v, hv, n, H0, ρ, _, R, w.2, fun xs H2 H02 as ρ2 R2 S2 hds w2 => k (v :: xs) H2 H02 (.n i :: as) ρ2 R2 S2 (.cons hv hds) w2⟩
theorem call_mono {pp : PPr} {qa : QA} : ∀ σ H Q, tR X.K J (qCall pp qa) σ H Q → tCall (spD X.K J pp) [] E0 (tA X.K J qa) σ H Q := fun σ H Q ⟨n, H0, ρ, P, R, w, k⟩ =>
  ⟨n, H0, ρ, _, R, w, fun vs H1 H01 as ρ1 R1 S1 ha ⟨gs, hg, w1⟩ => by
    obtain ⟨H0f, Sf, Rf, hf⟩ := Rp.args (.refl H01) as ρ1 H01 vs gs R1 ha hg
    rw [List.append_nil]
    refine ⟨H0f, n.as, n.jv, gs, Rf.sub, R1.jar, Rf.jarOk, hf, _, w1, fun r v H' hb hr => ?_⟩
    have hb : behind ρ1 as P r := hb
    have gen : P r (frzs ρ1 as) → Q v H' := fun hp => by
      obtain ⟨H0', S', R', hres⟩ := Rf.call hr
      exact k v H' H0' r _ R' ((S1.trans Sf).trans S') hres hp
    cases r with
    | da d =>
      have hb' : if flatD d = true then P (.da d) ρ1 else P (.da d) (frzs ρ1 as) := hb
      by_cases f : flatD d = true
      · rw [if_pos f] at hb'
        have R' := R1.callF Rf hr
        obtain ⟨H0', _, _, _, _, _, h6⟩ := hr
        exact k v H' H01 (.da d) ρ1 R' S1 (flat_any h6 f) hb'
      · rw [if_neg f] at hb'
        exact gen hb'
    | un => exact gen hb
    | ow ds => exact gen hb
    | ja => exact gen hb⟩
theorem pr_call {pp : PPr} {qa : QA} {k : Nat} {f : Addr} {fd : FuncData} {ps : List Str} {x : Str} {p : Pos} (F : FnOk X.prog X.w X.K X.mg X.base CX0 k f fd ps (spD X.K J pp)) (hr : Room k X.A) (hg : Gl X x) (hm : X.mg x = some (.ref f)) (hk : PySem.W.keepIn X.K (.ref f) = true) (hb : Binds X.K fd ps [])
    (ha : PAa J X (e :: es) qa) (hdb : (x == ("__debug__" : Str)) = false := by decide) (he : starEach (e :: es) X.env = (false, eval e X.env) :: starEach es X.env := by rfl) (hpl : (backTo pos (starEach es X.env)).any (·.1) = false := by rfl) :
    PR J X (.Call (.Name x p) (e :: es) [] pos) (qCall pp qa) := pe_mono (pe_call F hr hg hm hk hb .nil pass0 ha hdb he hpl) call_mono

/-! ### methods of the def's own lists; join -/
def qApp (i : Nat) (qa : QD) : QR := fun ρ P => (∃ ds, ρ[i]? = some (.ow ds)) ∧ qa ρ fun d ρ' => match ρ'[i]? with
  | some (.ow ds) => ds.length < sizeLine ∧ P (.da .none) (ρ'.set i (.ow (ds ++ [d])))
  | _ => False
theorem app_mono {i : Nat} {qa : QD} : ∀ σ H Q, tR X.K J (qApp i qa) σ H Q → tBM X.K "list" rAppend (tVar i) (tCons (tD X.K J qa) tNil) σ H Q := fun σ H Q ⟨n, H0, ρ, P, R, ⟨⟨ds, e⟩, w⟩, k⟩ => by
  obtain ⟨a, xs, h1, h2, h3, h4, h5⟩ := R.sl i _ e
  refine ⟨_, h1, .inl ⟨rfl, xs, SqL.of h2⟩, n, H0, ρ, _, R, w, fun v H1 H01 d ρ1 R1 S1 hd w1 => ?_⟩
  cases e1 : ρ1[i]? with
  | none => rw [e1] at w1; exact w1.elim
  | some s =>
    rw [e1] at w1
    cases s with
    | ow es =>
      obtain ⟨b, ys, g1, g2, g3, g4, g5⟩ := R1.sl i _ e1
      rw [h1] at g1
      cases g1
      have hx := dpa_app g3 (dpa_one hd)
      exact ⟨a, ys, v, rfl, rfl, g2, by rw [dpa_len g3]; exact w1.1, k _ _ H01 (.da .none) _ (R1.own_put e1 h1 hx) S1 .non w1.2⟩
    | _ => exact w1.elim
theorem pr_app {i : Nat} {qa : QD} {o : Expr} {apos : Pos} (ho : PE X o (tVar i)) (ha : PD J X e qa)
    (hbase : attributeBase o "append" X.env (eval o X.env) = eval o X.env := by rfl)
    (hfew : ((backTo pos (starEach [e] X.env)).all (fun x => !x.1) && (backToKw pos (keywordEach [] X.env)).all (fun x => x.1.isSome) && decide ([e].length + ([] : List Keyword).length + (if ([] : List Keyword).isEmpty then 0 else 1) < 30)) = true := by rfl)
    (hline : (apos.endLine == pos.line) = true := by rfl) (hs : starEach [e] X.env = (false, eval e X.env) :: starEach [] X.env := by rfl) (hplain : (backTo pos (starEach [] X.env)).any (·.1) = false := by rfl) :
    PR J X (.Call (.Attribute o "append" apos) [e] [] pos) (qApp i qa) :=
  pe_mono (pe_bm PySem.F.plainAttrs_list PySem.F.slot_list_append PySem.F.type_list_append mt_append ho (pa_cons ha pa_nil hs) hbase hfew hline hs hplain) app_mono
/-- extend by a new list -/
def qExt (i : Nat) (qa : QR) : QR := fun ρ P => (∃ ds, ρ[i]? = some (.ow ds)) ∧ qa ρ fun r ρ' => match r with
  | .ow es => (match ρ'[i]? with
    | some (.ow ds) => ds.length + es.length ≤ sizeLine ∧ P (.da .none) (ρ'.set i (.ow (ds ++ es)))
    | _ => False)
  | _ => False
theorem ext_mono {i : Nat} {qa : QR} : ∀ σ H Q, tR X.K J (qExt i qa) σ H Q → tBM X.K "list" rExtend (tVar i) (tCons (tR X.K J qa) tNil) σ H Q := fun σ H Q ⟨n, H0, ρ, P, R, ⟨⟨ds, e⟩, w⟩, k⟩ => by
  obtain ⟨a, xs, h1, h2, h3, h4, h5⟩ := R.sl i _ e
  refine ⟨_, h1, .inl ⟨rfl, xs, SqL.of h2⟩, n, H0, ρ, _, R, w, fun v H1 H01 r ρ1 R1 S1 hd w1 => ?_⟩
  cases r with
  | ow cs =>
    obtain ⟨b, zs, rfl, z1, z2, _⟩ := hd
    cases e1 : ρ1[i]? with
    | none =>
      have w2 : (match ρ1[i]? with | some (.ow ds) => _ | _ => False) := w1
      rw [e1] at w2
      exact w2.elim
    | some s =>
      have w2 : (match ρ1[i]? with | some (.ow ds) => ds.length + cs.length ≤ sizeLine ∧ P (.da .none) (ρ1.set i (.ow (ds ++ cs))) | _ => False) := w1
      rw [e1] at w2
      cases s with
      | ow es =>
        obtain ⟨b', ys, g1, g2, g3, g4, g5⟩ := R1.sl i _ e1
        rw [h1] at g1
        cases g1
        have hx := dpa_app g3 z2
        exact ⟨a, b, ys, zs, rfl, rfl, g2, z1, by rw [dpa_len g3, dpa_len z2]; exact w2.1, k _ _ H01 (.da .none) _ (R1.own_put e1 h1 hx) S1 .non w2.2⟩
      | _ => exact w2.elim
  | _ => exact w1.elim
theorem pr_ext {i : Nat} {qa : QR} {o : Expr} {apos : Pos} (ho : PE X o (tVar i)) (ha : PR J X e qa)
    (hbase : attributeBase o "extend" X.env (eval o X.env) = eval o X.env := by rfl)
    (hfew : ((backTo pos (starEach [e] X.env)).all (fun x => !x.1) && (backToKw pos (keywordEach [] X.env)).all (fun x => x.1.isSome) && decide ([e].length + ([] : List Keyword).length + (if ([] : List Keyword).isEmpty then 0 else 1) < 30)) = true := by rfl)
    (hline : (apos.endLine == pos.line) = true := by rfl) (hs : starEach [e] X.env = (false, eval e X.env) :: starEach [] X.env := by rfl) (hplain : (backTo pos (starEach [] X.env)).any (·.1) = false := by rfl) :
    PR J X (.Call (.Attribute o "extend" apos) [e] [] pos) (qExt i qa) :=
  pe_mono (pe_bm PySem.F.plainAttrs_list PySem.F.slot_list_extend PySem.F.type_list_extend mt_extend ho (pa_cons ha pa_nil hs) hbase hfew hline hs hplain) ext_mono
/-- x.pop() -/
def qPop (i : Nat) : QR := fun ρ P => match ρ[i]? with
  | some (.ow ds) => ∃ d, ds.getLast? = some d ∧ P (.da d) (ρ.set i (.ow ds.dropLast))
  | _ => False
theorem dpa_dropLast {K : PySem.W.Frag} {H : Hp} {xs : List V} {ds : List D} (h : DqAll K H xs ds) : DqAll K H xs.dropLast ds.dropLast := by
  rw [List.dropLast_eq_take, List.dropLast_eq_take, dpa_len h]
  exact dpa_take _ h
theorem pop_mono {i : Nat} : ∀ σ H Q, tR X.K J (qPop i) σ H Q → tBM0 X.K "list" rPop (tVar i) σ H Q := fun σ H Q ⟨n, H0, ρ, P, R, w, k⟩ => by
  unfold qPop at w
  cases e : ρ[i]? with
  | none => rw [e] at w; exact w.elim
  | some s =>
    rw [e] at w
    cases s with
    | ow ds =>
      obtain ⟨d, hd, hp⟩ := w
      obtain ⟨a, xs, h1, h2, h3, h4, h5⟩ := R.sl i _ e
      rw [List.getLast?_eq_getElem?, ← dpa_len h3] at hd
      obtain ⟨v, hv, hdv⟩ := dpa_get' h3 hd
      exact ⟨_, h1, .inl ⟨rfl, xs, SqL.of h2⟩, a, xs, v, rfl, rfl, h2, hv, k v _ H0 (.da d) _ (R.own_put e h1 (dpa_dropLast h3)) (.refl _) hdv hp⟩
    | _ => exact w.elim
theorem pr_pop {i : Nat} {o : Expr} {apos : Pos} (ho : PE X o (tVar i)) (hbase : attributeBase o "pop" X.env (eval o X.env) = eval o X.env := by rfl) (hline : (apos.endLine == pos.line) = true := by rfl) :
    PR J X (.Call (.Attribute o "pop" apos) [] [] pos) (qPop i) :=
  pe_mono (pe_bm0 PySem.F.plainAttrs_list PySem.F.slot_list_pop PySem.F.type_list_pop mt_pop ho hbase hline) pop_mono
/-- x.bit_length() -/
def bitsI (i : Int) : Int := (Builtin.Int.intBits i : Int)
/-- s.join(row of texts) -/
def strD : D → Option Str
  | .str x => some x
  | _ => none
def strsD : List D → Option (List Str)
  | [] => some []
  | .str x :: r => (strsD r).map (x :: ·)
  | _ :: _ => none
theorem strs_v {K : PySem.W.Frag} {H : Hp} : ∀ {ds : List D} {xs : List V} {ys : List Str}, DqAll K H xs ds → strsD ds = some ys → xs = ys.map V.str
  | [], _, _, h, e => by cases h; cases e; rfl
  | .str x :: r, _, ys, h, e => by
    cases h with
    | cons h1 h2 =>
      unfold strsD at e
      cases z : strsD r with
      | none => rw [z] at e; cases e
      | some zs =>
        rw [z] at e
        cases e
        cases h1
        rw [strs_v h2 z]
        rfl
  | .none :: _, _, _, _, e => by cases e
  | .bool _ :: _, _, _, _, e => by cases e
  | .int _ :: _, _, _, _, e => by cases e
  | .list _ :: _, _, _, _, e => by cases e
  | .tuple _ :: _, _, _, _, e => by cases e
  | .dict _ :: _, _, _, _, e => by cases e
def rowD : D → Option (List D)
  | .list ds => some ds
  | .tuple ds => some ds
  | _ => none
def qJoin (qo qe : QD) : QD := fun ρ P => qo ρ fun d ρ1 => ∃ a, d = .str a ∧ qe ρ1 fun e ρ2 => ∃ ds ys, rowD e = some ds ∧ strsD ds = some ys ∧ (ys.map (·.length)).sum + ys.length * a.length ≤ 16777216 ∧ P (.str (Txt.join a ys)) ρ2
theorem pd_join {qo qe : QD} {o : Expr} {apos : Pos} (ho : PD J X o qo) (he : PV J X e qe) (hs : starEach [e] X.env = [(false, eval e X.env)] := by rfl) (hbase : attributeBase o "join" X.env (eval o X.env) = eval o X.env := by rfl)
    (hline : (apos.endLine == pos.line) = true := by rfl) : PD J X (.Call (.Attribute o "join" apos) [e] [] pos) (qJoin qo qe) :=
  pe_mono (pe_join ho he hs hbase hline) fun σ H Q ⟨n, H0, ρ, P, R, w, k⟩ => ⟨n, H0, ρ, _, R, w, fun v H1 H01 d ρ1 R1 S1 hd w1 => by
    obtain ⟨a, rfl, w1⟩ := w1
    have ev := dp_str hd
    subst ev
    refine ⟨⟨a, rfl⟩, n, H01, ρ1, _, R1, w1, fun u H2 H02 f ρ2 R2 S2 hf ⟨ds, ys, e2, e3, e4, w2⟩ => ?_⟩
    · skip
      have hx : ∃ p xs, u = .ref p ∧ (SqL X.K H2 p xs ∨ SqT X.K H2 p xs) ∧ DqAll X.K H02 xs ds := by
        cases f with
        | list cs =>
          cases e2
          obtain ⟨p, xs, q1, q2, q3⟩ := hf.lst R2.sub
          exact ⟨p, xs, q1, .inl q2, q3⟩
        | tuple cs =>
          cases e2
          obtain ⟨p, xs, q1, q2, q3⟩ := hf.tup
          exact ⟨p, xs, q1, .inr (same_t R2.sub q2), q3⟩
        | _ => cases e2
      obtain ⟨p, xs, rfl, q2, q3⟩ := hx
      have q4 := strs_v q3 e3
      subst q4
      exact ⟨a, p, ys, rfl, rfl, q2, e4, k _ H2 H02 _ ρ2 R2 (S1.trans S2) (.str _) w2⟩⟩
end
end Zd

set_option Elab.async false
set_option linter.all false
set_option maxRecDepth 100000
set_option maxHeartbeats 4000000
namespace Zd
open PySem PySem.Spec PyProof.Rows L2
/-! ### what a for walks -/
def ItOk (K : PySem.W.Frag) (J' : It) (H0 : Hp) (items : List D) : Prop :=
  (∀ i Hc, Same H0 Hc → i < items.length → J'.go i Hc) ∧ (∀ i Hc, Same H0 Hc → items.length ≤ i → J'.stop i Hc) ∧
  (∀ i Hc H0c x H' d, Same H0 H0c → Same H0c Hc → items[i]? = some d → J'.yld i Hc x H' → (H' = Hc ∧ Dq K H0c x d) ∨ ∃ T xs, Hc T = none ∧ H' = upd Hc T (.tup xs) ∧ Dq K (upd H0c T (.tup xs)) x d)
def tI (K : PySem.W.Frag) (J : Jr) (q : QL) : TI := fun σ H R => ∃ (n : En) (H0 : Hp) (ρ : List Sl) (P : List D → List Sl → Prop), Rp K J n σ H H0 ρ ∧ q ρ P ∧
  ∀ J' H' H0' items ρ', Rp K J n σ H' H0' ρ' → Same H0 H0' → ItOk K J' H0' items → P items ρ' → R J' H'
section
variable {X : Cx} {J : Jr} {e a b c tg : Expr} {es : List Expr} {pos : Pos}
abbrev PIt (J : Jr) (X : Cx) (tg e : Expr) (q : QL) : Prop := PI X tg e (tI X.K J q)
theorem pi_mono {w w' : TI} (h : PI X tg e w) (i : ∀ σ H R, w' σ H R → w σ H R) : PI X tg e w' := ⟨fun pins s σ H R I z => h.run pins s σ H R I (i _ _ _ z)⟩
theorem pi_or {w w' : TI} (h : PI X tg e w) (h' : PI X tg e w') : PI X tg e (fun σ H R => w σ H R ∨ w' σ H R) := ⟨fun pins s σ H R I z => z.elim (h.run pins s σ H R I) (h'.run pins s σ H R I)⟩
def sgn (c : Nat) : D := .str ⟨#[c]⟩
def itemsD : D → Option (List D)
  | .list ds => some ds
  | .tuple ds => some ds
  | .str x => some (x.cps.toList.map sgn)
  | _ => none
theorem it_list {K : PySem.W.Frag} {H0 : Hp} {p : Addr} {xs : List V} {ds : List D} (h : SqL K H0 p xs) (hd : DqAll K H0 xs ds) : ItOk K (Itl K p) H0 ds := by
  refine ⟨fun i Hc S hi => ?_, fun i Hc S hi => ⟨xs, S.seq h, by rw [dpa_len hd]; exact hi⟩, fun i Hc H0c x H' d S1 S2 hi hy => ?_⟩
  · have hi' : i < xs.length := by rw [dpa_len hd]; exact hi
    exact ⟨xs, xs[i], S.seq h, List.getElem?_eq_getElem hi'⟩
  · obtain ⟨rfl, hy⟩ := hy
    obtain ⟨u, hv, hdv⟩ := dpa_get' hd hi
    have q := hy xs ((S1.trans S2).seq h)
    rw [hv] at q
    cases q
    exact .inl ⟨rfl, dp_mono S1 d _ hdv⟩
theorem it_tup {K : PySem.W.Frag} {H0 : Hp} {p : Addr} {xs : List V} {ds : List D} (h : SqT K H0 p xs) (hd : DqAll K H0 xs ds) : ItOk K (Itt K p) H0 ds := by
  refine ⟨fun i Hc S hi => ?_, fun i Hc S hi => ⟨xs, same_t S h, by rw [dpa_len hd]; exact hi⟩, fun i Hc H0c x H' d S1 S2 hi hy => ?_⟩
  · have hi' : i < xs.length := by rw [dpa_len hd]; exact hi
    exact ⟨xs, xs[i], same_t S h, List.getElem?_eq_getElem hi'⟩
  · obtain ⟨rfl, hy⟩ := hy
    obtain ⟨u, hv, hdv⟩ := dpa_get' hd hi
    have q := hy xs (same_t (S1.trans S2) h)
    rw [hv] at q
    cases q
    exact .inl ⟨rfl, dp_mono S1 d _ hdv⟩
theorem it_str {K : PySem.W.Frag} {H0 : Hp} {z : Str} : ItOk K (Its z) H0 (z.cps.toList.map sgn) := by
  refine ⟨fun i Hc S hi => ?_, fun i Hc S hi => ?_, fun i Hc H0c x H' d S1 S2 hi hy => ?_⟩
  · rw [List.length_map, Array.length_toList] at hi; exact hi
  · rw [List.length_map, Array.length_toList] at hi; exact hi
  · obtain ⟨rfl, c, hc, rfl⟩ := hy
    rw [List.getElem?_map, Array.getElem?_toList, hc] at hi
    cases hi
    exact .inl ⟨rfl, .str _⟩
def qItD (q : QD) : QL := fun ρ P => q ρ fun d ρ' => ∃ ds, itemsD d = some ds ∧ P ds ρ'
/-- iter of a value that is known -/
theorem iter_l {pins : List (Addr × Obj)} {σ : L2.St} {H : Hp} {s : Shared} {R : It → Hp → Prop} {p : Addr} {xs : List V} (I : Inv X pins σ H s) (h : SqL X.K H p xs) (q : R (Itl X.K p) H) :
    wpAny (model X.prog X.w) X.A (pyIter (.ref p)) (PIE X pins σ tg R) X.xe s := by
  obtain ⟨_, _, z, _⟩ := I.list h
  exact wpAny_pyIter_list z.isList (pi_one (tk := s.toks) I _ (turn_list p _) ⟨_, Heap.get?_push_size _ rfl, rfl, rfl⟩ q)
theorem iter_t {pins : List (Addr × Obj)} {σ : L2.St} {H : Hp} {s : Shared} {R : It → Hp → Prop} {p : Addr} {xs : List V} (I : Inv X pins σ H s) (h : SqT X.K H p xs) (q : R (Itt X.K p) H) :
    wpAny (model X.prog X.w) X.A (pyIter (.ref p)) (PIE X pins σ tg R) X.xe s := by
  obtain ⟨us, _, z, _⟩ := I.tuple h
  exact wpAny_pyIter_tuple (show s.heap.IsTuple p us.toArray from z) (pi_one (tk := s.toks) I _ (turn_tuple p _) ⟨_, Heap.get?_push_size _ rfl, rfl, rfl⟩ q)
theorem iter_s {pins : List (Addr × Obj)} {σ : L2.St} {H : Hp} {s : Shared} {R : It → Hp → Prop} {z : Str} {t : Tok} (I : Inv X pins σ H s) (q : R (Its z) H) :
    wpAny (model X.prog X.w) X.A (pyIter (.str z t)) (PIE X pins σ tg R) X.xe s := by
  cases h : z.cps.all (· < 128) with
  | false => exact wpAny_pyIter_wide h (pi_one (tk := s.toks) I _ (turn_str _ z t _ (.inr rfl)) ⟨_, Heap.get?_push_size _ rfl, rfl, rfl⟩ q)
  | true => exact wpAny_pyIter_ascii h (pi_one (tk := s.toks) I _ (turn_str _ z t _ (.inl rfl)) ⟨_, Heap.get?_push_size _ rfl, rfl, rfl⟩ q)
theorem pit_d {q : QD} (h : PD J X e q) : PIt J X tg e (qItD q) := by
  refine ⟨fun pins s σ H R I ⟨n, H0, ρ, P, Rr, w, k⟩ => ?_⟩
  have run := h.run pins s σ H (fun v H' => ∃ H0' d ρ' ds, Rp X.K J n σ H' H0' ρ' ∧ Same H0 H0' ∧ Dq X.K H0' v d ∧ itemsD d = some ds ∧ P ds ρ') I
    ⟨n, H0, ρ, _, Rr, w, fun v H' H0' d ρ' R' S' hd ⟨ds, e1, hp⟩ => ⟨H0', d, ρ', ds, R', S', hd, e1, hp⟩⟩
  refine thn run fun u s1 ⟨v, H1, I1, r1, H0', d, ρ', ds, R', S', hd, e1, hp⟩ => ?_
  cases hd with
  | lst h1 h2 =>
    cases e1
    cases r1
    exact iter_l I1 (R'.sub.seq h1) (k _ H1 H0' _ ρ' R' S' (it_list h1 h2) hp)
  | tup h1 h2 =>
    cases e1
    cases r1
    exact iter_t I1 (same_t R'.sub h1) (k _ H1 H0' _ ρ' R' S' (it_tup h1 h2) hp)
  | str z =>
    cases e1
    obtain ⟨t, rfl⟩ := r1
    exact iter_s I1 (k _ H1 H0' _ ρ' R' S' it_str hp)
  | _ => cases e1
/-- range -/
def rangeD (lo : Int) : Nat → List D
  | 0 => []
  | n + 1 => .int lo :: rangeD (lo + 1) n
theorem rangeD_len : ∀ (n : Nat) (lo : Int), (rangeD lo n).length = n
  | 0, _ => rfl
  | n + 1, lo => by unfold rangeD; rw [List.length_cons, rangeD_len n]
theorem rangeD_get : ∀ (n i : Nat) (lo : Int), i < n → (rangeD lo n)[i]? = some (.int (lo + i))
  | 0, _, _, h => absurd h (Nat.not_lt_zero _)
  | n + 1, 0, lo, _ => by
    show some (PyData.int lo) = some (.int (lo + (0 : Nat)))
    rw [Int.natCast_zero, Int.add_zero]
  | n + 1, i + 1, lo, h => by
    show (rangeD (lo + 1) n)[i]? = _
    rw [rangeD_get n i (lo + 1) (by omega)]
    have q : lo + 1 + (i : Int) = lo + ((i + 1 : Nat) : Int) := by omega
    rw [q]
theorem it_range {K : PySem.W.Frag} {H0 : Hp} {lo : Int} {n : Nat} : ItOk K (Itr lo n) H0 (rangeD lo n) := by
  refine ⟨fun i Hc S hi => ?_, fun i Hc S hi => ?_, fun i Hc H0c x H' d S1 S2 hi hy => ?_⟩
  · rw [rangeD_len] at hi; exact hi
  · rw [rangeD_len] at hi; exact hi
  · obtain ⟨rfl, rfl⟩ := hy
    have l : i < n := by
      have := (List.getElem?_eq_some_iff.mp hi).1
      rw [rangeD_len] at this
      exact this
    rw [rangeD_get n i lo l] at hi
    cases hi
    exact .inl ⟨rfl, .int _⟩
def qRng1 (q : QL) : QL := fun ρ P => q ρ fun ds ρ' => ∃ j, ds = [.int j] ∧ j < 2 ^ 62 ∧ -(2 ^ 62) ≤ j ∧ P (rangeD 0 j.toNat) ρ'
def qRng2 (q : QL) : QL := fun ρ P => q ρ fun ds ρ' => ∃ i j, ds = [.int i, .int j] ∧ (-(2 ^ 62) ≤ i ∧ i < 2 ^ 62 ∧ -(2 ^ 62) ≤ j ∧ j < 2 ^ 62) ∧ P (rangeD i (j - i).toNat) ρ'
theorem pit_r1 {q : QL} {p : Pos} (hg : Gl X "range") (hm : X.mg "range" = none) (ha : PL J X [a] 1 q) (hs : starEach [a] X.env = [(false, eval a X.env)] := by rfl) : PIt J X tg (.Call (.Name "range" p) [a] [] pos) (qRng1 q) :=
  pi_mono (pi_range1 hg hm ha hs) fun σ H R ⟨n, H0, ρ, P, Rr, w, k⟩ => ⟨n, H0, ρ, _, Rr, w, fun vs H' H0' ds ρ' R' S' hd hl ⟨j, e1, h1, h2, hp⟩ => by
    subst e1
    cases hd with
    | cons q1 q2 =>
      cases q2
      cases q1
      exact ⟨j, rfl, h2, h1, k _ H' H0' _ ρ' R' S' it_range hp⟩⟩
theorem pit_r2 {q : QL} {p : Pos} (hg : Gl X "range") (hm : X.mg "range" = none) (ha : PL J X [a, b] 2 q) (hs : starEach [a, b] X.env = [(false, eval a X.env), (false, eval b X.env)] := by rfl) (hs2 : starEach [b] X.env = [(false, eval b X.env)] := by rfl) :
    PIt J X tg (.Call (.Name "range" p) [a, b] [] pos) (qRng2 q) :=
  pi_mono (pi_range2 hg hm ha hs hs2) fun σ H R ⟨n, H0, ρ, P, Rr, w, k⟩ => ⟨n, H0, ρ, _, Rr, w, fun vs H' H0' ds ρ' R' S' hd hl ⟨i, j, e1, h1, hp⟩ => by
    subst e1
    cases hd with
    | cons q1 q2 =>
      cases q2 with
      | cons q3 q4 =>
        cases q4
        cases q1
        cases q3
        exact ⟨i, j, rfl, h1, k _ H' H0' _ ρ' R' S' it_range hp⟩⟩

/-! ### targets -/
abbrev QG := D → List Sl → (List Sl → Prop) → Prop
abbrev QGs := List D → List Sl → (List Sl → Prop) → Prop
/-- the slots that are stored to -/
def Off (is : List Nat) (σ σ' : L2.St) : Prop := σ'.length = σ.length ∧ ∀ j, j ∉ is → σ'[j]? = σ[j]?
def tG (K : PySem.W.Frag) (J : Jr) (is : List Nat) (q : QG) : TG := fun v σ H Q => ∃ (n : En) (H0 : Hp) (ρ : List Sl) (d : D) (P : List Sl → Prop), Rp K J n σ H H0 ρ ∧ Dq K H0 v d ∧ q d ρ P ∧
  ∀ σ' ρ', Rp K J n σ' H H0 ρ' → Off is σ σ' → P ρ' → Q σ' H
def tGs (K : PySem.W.Frag) (J : Jr) (is : List Nat) (q : QGs) : TGs := fun vs σ H Q => ∃ (n : En) (H0 : Hp) (ρ : List Sl) (ds : List D) (P : List Sl → Prop), Rp K J n σ H H0 ρ ∧ DqAll K H0 vs ds ∧ q ds ρ P ∧
  ∀ σ' ρ', Rp K J n σ' H H0 ρ' → Off is σ σ' → P ρ' → Q σ' H
abbrev PGd (J : Jr) (X : Cx) (tg : Expr) (is : List Nat) (q : QG) : Prop := PG X tg (tG X.K J is q)
abbrev PGds (J : Jr) (X : Cx) (es : List Expr) (is : List Nat) (q : QGs) : Prop := PGs X es (tGs X.K J is q)
theorem pg_mono {t t' : TG} (h : PG X tg t) (i : ∀ v σ H Q, t' v σ H Q → t v σ H Q) : PG X tg t' := ⟨fun pins s σ H v u Q I r w => h.run pins s σ H v u Q I r (i _ _ _ _ w)⟩
theorem pgs_mono {t t' : TGs} (h : PGs X es t) (i : ∀ v σ H Q, t' v σ H Q → t v σ H Q) : PGs X es t' := ⟨fun pins s σ H v u Q I r w => h.run pins s σ H v u Q I r (i _ _ _ _ w)⟩
theorem off_set {i : Nat} {σ : L2.St} {x : Option V} : Off [i] σ (σ.set i x) := ⟨List.length_set .., fun j hj => by
  rw [get_set, if_neg (fun q => hj (by rw [q]; exact List.mem_cons_self ..))]⟩
theorem Off.trans {is js : List Nat} {σ σ1 σ2 : L2.St} (h : Off is σ σ1) (h' : Off js σ1 σ2) : Off (is ++ js) σ σ2 := ⟨h'.1.trans h.1, fun j hj => by
  rw [h'.2 j (fun q => hj (List.mem_append_right _ q)), h.2 j (fun q => hj (List.mem_append_left _ q))]⟩
def qgName (i : Nat) : QG := fun d ρ P => P (ρ.set i (.da d))
theorem pgd_name {i : Nat} (h : PG X tg (gName i)) : PGd J X tg [i] (qgName i) := pg_mono h fun v σ H Q ⟨n, H0, ρ, d, P, R, hd, w, k⟩ => k _ _ (R.set_da hd) off_set w
def qgNil : QGs := fun ds ρ P => ds = [] ∧ P ρ
def qgCons (q : QG) (r : QGs) : QGs := fun ds ρ P => match ds with
  | d :: ds => q d ρ fun ρ' => r ds ρ' P
  | [] => False
theorem pgds_nil : PGds J X [] [] qgNil := pgs_mono pgs_nil fun vs σ H Q ⟨n, H0, ρ, ds, P, R, hd, w, k⟩ => by
  obtain ⟨rfl, hp⟩ := w
  cases hd
  exact ⟨rfl, k σ ρ R ⟨rfl, fun _ _ => rfl⟩ hp⟩
theorem pgds_cons {is js : List Nat} {q : QG} {r : QGs} (h1 : PGd J X e is q) (h2 : PGds J X es js r) (hs : (assignEach (e :: es) X.env).map (·.2) = assign e X.env :: (assignEach es X.env).map (·.2) := by rfl) : PGds J X (e :: es) (is ++ js) (qgCons q r) :=
  pgs_mono (pgs_cons h1 h2 hs) fun vs σ H Q ⟨n, H0, ρ, ds, P, R, hd, w, k⟩ => by
    cases hd with
    | nil => exact w.elim
    | @cons v vr d dr q1 q2 =>
      exact ⟨v, vr, rfl, n, H0, ρ, d, _, R, q1, w, fun σ1 ρ1 R1 O1 w1 => ⟨n, H0, ρ1, dr, P, R1, q2, w1, fun σ2 ρ2 R2 O2 hp => k σ2 ρ2 R2 (O1.trans O2) hp⟩⟩
def qgTup (m : Nat) (r : QGs) : QG := fun d ρ P => match d with
  | .tuple ds => ds.length = m ∧ r ds ρ P
  | _ => False
theorem pgd_tup {is : List Nat} {r : QGs} {m k : Nat} (hc : X.calm = true) (h : PGds J X es is r) (hn : (assignEach es X.env).length = m := by rfl) (hst : (assignEach es X.env).findIdx? (·.1) = none := by rfl) : PGd J X (.Tuple es k pos) is (qgTup m r) :=
  pg_mono (pg_tup hc h hn hst) fun v σ H Q ⟨n, H0, ρ, d, P, R, hd, w, k⟩ => by
    cases hd with
    | tup h1 h2 => exact ⟨_, _, rfl, same_t R.sub h1, by rw [dpa_len h2]; exact w.1, n, H0, ρ, _, P, R, h2, w.2, k⟩
    | _ => exact w.elim
end
end Zd

set_option Elab.async false
set_option linter.all false
set_option maxRecDepth 100000
set_option maxHeartbeats 4000000
namespace Zd
open PySem PySem.Spec PyProof.Rows L2
/-! ### statements -/
structure EndD where
  nx : List Sl → Prop
  rt : Sl → List Sl → Prop
  bk : List Sl → Prop
  ct : List Sl → Prop
abbrev QS := EndD → List Sl → Prop
def tS (K : PySem.W.Frag) (J : Jr) (q : QS) : TS := fun D σ H => ∃ (n : En) (H0 : Hp) (ρ : List Sl) (E : EndD), Rp K J n σ H H0 ρ ∧ q E ρ ∧
  (∀ σ' H' H0' ρ', Rp K J n σ' H' H0' ρ' → Same H0 H0' → E.nx ρ' → D.nx σ' H') ∧ (∀ v σ' H' H0' r ρ', Rp K J n σ' H' H0' ρ' → Same H0 H0' → ResOk K n σ' ρ' H' H0' v r → E.rt r ρ' → D.rt v H') ∧
  (∀ σ' H' H0' ρ', Rp K J n σ' H' H0' ρ' → Same H0 H0' → E.bk ρ' → D.bk σ' H') ∧ (∀ σ' H' H0' ρ', Rp K J n σ' H' H0' ρ' → Same H0 H0' → E.ct ρ' → D.ct σ' H')
section
variable {X : Cx} {J : Jr} {e a b c tg iter elt : Expr} {es : List Expr} {pos : Pos} {st : Stmt} {sts : List Stmt}
abbrev PSd (J : Jr) (X : Cx) (st : Stmt) (q : QS) : Prop := PS X st (tS X.K J q)
abbrev PSsd (J : Jr) (X : Cx) (sts : List Stmt) (q : QS) : Prop := PSs X sts (tS X.K J q)
theorem ps_mono {t t' : TS} (h : PS X st t) (i : ∀ D σ H, t' D σ H → t D σ H) : PS X st t' := ⟨fun pins s σ H D I w => h.run pins s σ H D I (i _ _ _ w)⟩
theorem pss_mono {t t' : TS} (h : PSs X sts t) (i : ∀ D σ H, t' D σ H → t D σ H) : PSs X sts t' := ⟨fun pins s σ H D I w => h.run pins s σ H D I (i _ _ _ w)⟩
def qNext : QS := fun E ρ => E.nx ρ
def qSeq (q r : QS) : QS := fun E ρ => q { E with nx := r E } ρ
theorem pssd_nil : PSsd J X [] qNext := pss_mono pss_nil fun D σ H ⟨n, H0, ρ, E, R, w, k, _⟩ => k σ H H0 ρ R (.refl _) w
theorem pssd_cons {q r : QS} (h : PSd J X st q) (h2 : PSsd J X sts r) : PSsd J X (st :: sts) (qSeq q r) := pss_mono (pss_cons h h2) fun D σ H ⟨n, H0, ρ, E, R, w, k1, k2, k3, k4⟩ =>
  ⟨n, H0, ρ, _, R, w, fun σ1 H1 H01 ρ1 R1 S1 w1 => ⟨n, H01, ρ1, E, R1, w1, fun σ' H' H0' ρ' R' S' z => k1 σ' H' H0' ρ' R' (S1.trans S') z, fun v σ' H' H0' r ρ' R' S' => k2 v σ' H' H0' r ρ' R' (S1.trans S'), fun σ' H' H0' ρ' R' S' z => k3 σ' H' H0' ρ' R' (S1.trans S') z, fun σ' H' H0' ρ' R' S' z => k4 σ' H' H0' ρ' R' (S1.trans S') z⟩, k2, k3, k4⟩
theorem psd_pass : PSd J X (.Pass pos) qNext := ps_mono ps_pass fun D σ H ⟨n, H0, ρ, E, R, w, k, _⟩ => k σ H H0 ρ R (.refl _) w
def qBrk : QS := fun E ρ => E.bk ρ
def qCnt : QS := fun E ρ => E.ct ρ
theorem psd_brk : PSd J X (.Break pos) qBrk := ps_mono ps_break fun D σ H ⟨n, H0, ρ, E, R, w, _, _, k, _⟩ => k σ H H0 ρ R (.refl _) w
theorem psd_cnt : PSd J X (.Continue pos) qCnt := ps_mono ps_continue fun D σ H ⟨n, H0, ρ, E, R, w, _, _, _, k⟩ => k σ H H0 ρ R (.refl _) w
def qDrop (q : QR) : QS := fun E ρ => q ρ fun _ ρ' => E.nx ρ'
theorem psd_expr {q : QR} (h : PR J X e q) (hs : swapsWith e none pos.line X.env = pure false := by rfl) : PSd J X (.Expr e pos) (qDrop q) := ps_mono (ps_expr h hs) fun D σ H ⟨n, H0, ρ, E, R, w, k, _⟩ => ⟨n, H0, ρ, _, R, w, fun v H' H0' r ρ' R' S' _ hp => k σ H' H0' ρ' R' S' hp⟩
def qRet (q : QR) : QS := fun E ρ => q ρ fun r ρ' => E.rt r ρ'
theorem psd_ret {q : QR} (h : PR J X e q) : PSd J X (.Return (some e) pos) (qRet q) := ps_mono (ps_ret h) fun D σ H ⟨n, H0, ρ, E, R, w, _, k, _⟩ => ⟨n, H0, ρ, _, R, w, fun v H' H0' r ρ' R' S' hr hp => k v σ H' H0' r ρ' R' S' hr hp⟩
def qRetN : QS := fun E ρ => E.rt (.da .none) ρ
theorem psd_retN : PSd J X (.Return none pos) qRetN := ps_mono ps_retN fun D σ H ⟨n, H0, ρ, E, R, w, _, k, _⟩ => k .non σ H H0 (.da .none) ρ R (.refl _) Dq.non w
def qIfS (qc : QT) (q r : QS) : QS := fun E ρ => qc ρ fun b ρ' => if b = true then q E ρ' else r E ρ'
theorem psd_if {qc : QT} {q r : QS} {sa sb : List Stmt} (hc : PB J X c qc) (h1 : PSsd J X sa q) (h2 : PSsd J X sb r) : PSd J X (.If c sa sb pos) (qIfS qc q r) := ps_mono (ps_if hc h1 h2) fun D σ H ⟨n, H0, ρ, E, R, w, k1, k2, k3, k4⟩ =>
  ⟨n, H0, ρ, _, R, w, fun x H1 H01 ρ1 R1 S1 w1 => by
    cases x with
    | true => exact ⟨n, H01, ρ1, E, R1, w1, fun σ' H' H0' ρ' R' S' z => k1 σ' H' H0' ρ' R' (S1.trans S') z, fun v σ' H' H0' r ρ' R' S' => k2 v σ' H' H0' r ρ' R' (S1.trans S'), fun σ' H' H0' ρ' R' S' z => k3 σ' H' H0' ρ' R' (S1.trans S') z, fun σ' H' H0' ρ' R' S' z => k4 σ' H' H0' ρ' R' (S1.trans S') z⟩
    | false => exact ⟨n, H01, ρ1, E, R1, w1, fun σ' H' H0' ρ' R' S' z => k1 σ' H' H0' ρ' R' (S1.trans S') z, fun v σ' H' H0' r ρ' R' S' => k2 v σ' H' H0' r ρ' R' (S1.trans S'), fun σ' H' H0' ρ' R' S' z => k3 σ' H' H0' ρ' R' (S1.trans S') z, fun σ' H' H0' ρ' R' S' z => k4 σ' H' H0' ρ' R' (S1.trans S') z⟩⟩
/-- a result is stored in a slot -/
theorem Rp.put {K : PySem.W.Frag} {n : En} {σ : L2.St} {H H0 : Hp} {ρ : List Sl} {v : V} {r : Sl} (R : Rp K J n σ H H0 ρ) (h : ResOk K n σ ρ H H0 v r) (i : Nat) (hp : ∀ p, J.pin ≠ some (i, p)) : Rp K J n (σ.set i (some v)) H H0 (ρ.set i r) := by
  cases r with
  | un => exact h.elim
  | da d => exact R.set_da h
  | ow ds =>
    obtain ⟨a, xs, rfl, h2, h3, h4, h5, h6⟩ := h
    exact R.set_ow h2 h3 h4 h5 h6 (fun p hk => absurd hk (hp p))
  | ja => exact h.elim
def qSet (i : Nat) (q : QR) : QS := fun E ρ => q ρ fun r ρ' => E.nx (ρ'.set i r)
theorem set_mono {i : Nat} {q : QR} {te : TE} (hm : ∀ σ H Q, tR X.K J q σ H Q → te σ H Q) (hpin : ∀ p, J.pin ≠ some (i, p)) : ∀ D σ H, tS X.K J (qSet i q) D σ H → tAsg te (gName i) D σ H := fun D σ H ⟨n, H0, ρ, E, R, w, k, _⟩ =>
  hm σ H _ ⟨n, H0, ρ, _, R, w, fun v H' H0' r ρ' R' S' hr hp => k _ H' H0' _ (R'.put hr i hpin) S' hp⟩
theorem psd_set {i : Nat} {q : QR} {x : Str} {pos' : Pos} (hN : X.N.Nodup) (hi : X.N[i]? = some x) (hx : Loc X.env.scope x) (hpin : ∀ p, J.pin ≠ some (i, p)) (he : PR J X e q) (hs : swapsWith e (some (.Name x pos')) pos.line X.env = pure false := by rfl)
    (hf : X.fn x = true ∨ X.env.scope.names.lookup x = some .local := by first | exact .inl rfl | exact .inr rfl | assumption) : PSd J X (.Assign [.Name x pos'] e pos) (qSet i q) :=
  ps_mono (ps_set hN hi hx he hs hf) (set_mono (fun _ _ _ z => z) hpin)
/-- a tuple is taken apart -/
def qAsg (q : QD) (g : QG) : QS := fun E ρ => q ρ fun d ρ' => g d ρ' E.nx
theorem psd_asg {is : List Nat} {q : QD} {g : QG} (he : PD J X e q) (hg : PGd J X tg is g) (hs : swapsWithSole [tg] e pos.line X.env = pure false := by rfl) (hw : swappedStores [tg] e X.env = pure none := by rfl)
    (h1 : (assignEach [tg] X.env).map (·.2) = [assign tg X.env] := by rfl) : PSd J X (.Assign [tg] e pos) (qAsg q g) := ps_mono (ps_asg he hg hs hw h1) fun D σ H ⟨n, H0, ρ, E, R, w, k, _⟩ =>
  ⟨n, H0, ρ, _, R, w, fun v H1 H01 d ρ1 R1 S1 hd w1 => ⟨n, H01, ρ1, d, _, R1, hd, w1, fun σ' ρ' R' _ hp => k σ' H1 H01 ρ' R' S1 hp⟩⟩
def qPar (i j : Nat) (q : QL) : QS := fun E ρ => q ρ fun ds ρ' => match ds with
  | [d, e] => E.nx ((ρ'.set i (.da d)).set j (.da e))
  | _ => False
theorem psd_par {i j : Nat} {q : QL} {x y : Str} {px py pt : Pos} {kt k2 pt2} (hc : X.calm = true) (hN : X.N.Nodup) (hi : X.N[i]? = some x) (hj : X.N[j]? = some y) (hij : i ≠ j) (hx : X.env.scope.names.lookup x = some .local) (hy : X.env.scope.names.lookup y = some .local) (ha : PL J X [a, b] 2 q)
    (hw : swappedStores [.Tuple [.Name x px, .Name y py] kt pt] (.Tuple [a, b] k2 pt2) X.env = pure (some [x, y])) (hs : swapsWithSole [.Tuple [.Name x px, .Name y py] kt pt] (.Tuple [a, b] k2 pt2) pos.line X.env = pure false := by rfl) :
    PSd J X (.Assign [.Tuple [.Name x px, .Name y py] kt pt] (.Tuple [a, b] k2 pt2) pos) (qPar i j q) := ps_mono (ps_par hc hN hi hj hij hx hy ha hw hs) fun D σ H ⟨n, H0, ρ, E, R, w, k, _⟩ =>
  ⟨n, H0, ρ, _, R, w, fun vs H1 H01 ds ρ1 R1 S1 hd hl w1 => by
    cases hd with
    | nil => exact w1.elim
    | cons q1 q2 =>
      cases q2 with
      | nil => exact w1.elim
      | cons q3 q4 =>
        cases q4 with
        | nil => exact ⟨_, _, rfl, k _ H1 H01 _ ((R1.set_da q1).set_da q3) S1 w1⟩
        | cons _ _ => exact w1.elim⟩
/-- i += e, i -= e of ints -/
def qAugI (f : Int → Int → Int) (i : Nat) (q : QD) : QS := fun E ρ => ∃ x, ρ[i]? = some (.da (.int x)) ∧ q ρ fun d ρ' => ∃ y, d = .int y ∧ E.nx (ρ'.set i (.da (.int (f x y))))
theorem aug_mono {f : Int → Int → Int} {i : Nat} {q : QD} : ∀ D σ H, tS X.K J (qAugI f i q) D σ H → tAug i (tD X.K J q) (ipI f) D σ H := fun D σ H ⟨n, H0, ρ, E, R, ⟨x, hx, w⟩, k, _⟩ => by
  obtain ⟨v, h1, h2⟩ := R.sl i _ hx
  have ev := dp_int h2
  subst ev
  exact ⟨_, h1, n, H0, ρ, _, R, w, fun u H1 H01 d ρ1 R1 S1 hd ⟨y, ey, hp⟩ => by
    subst ey
    exact ⟨x, y, rfl, dp_int hd, k _ H1 H01 _ (R1.set_da (.int _)) S1 hp⟩⟩
theorem psd_augA {i : Nat} {q : QD} {x : Str} {pos' : Pos} (hN : X.N.Nodup) (hi : X.N[i]? = some x) (hx : Loc X.env.scope x) (he : PD J X e q) (hf : X.fn x = true ∨ X.env.scope.names.lookup x = some .local := by first | exact .inl rfl | exact .inr rfl | assumption) :
    PSd J X (.AugAssign (.Name x pos') .Add e pos) (qAugI (fun i j => i + j) i q) := ps_mono (ps_aug hN hi hx he ip_add hf) aug_mono
theorem psd_augS {i : Nat} {q : QD} {x : Str} {pos' : Pos} (hN : X.N.Nodup) (hi : X.N[i]? = some x) (hx : Loc X.env.scope x) (he : PD J X e q) (hf : X.fn x = true ∨ X.env.scope.names.lookup x = some .local := by first | exact .inl rfl | exact .inr rfl | assumption) :
    PSd J X (.AugAssign (.Name x pos') .Sub e pos) (qAugI (fun i j => i - j) i q) := ps_mono (ps_aug hN hi hx he ip_sub hf) aug_mono

/-! ### loops -/
def loopD (g : QG) (q : QS) (E : EndD) : List D → List Sl → Prop
  | [], ρ => E.nx ρ
  | d :: ds, ρ => g d ρ fun ρ' => q { nx := loopD g q E ds, rt := E.rt, bk := E.nx, ct := loopD g q E ds } ρ'
def qFor (qi : QL) (g : QG) (q : QS) : QS := fun E ρ => qi ρ fun ds ρ' => loopD g q E ds ρ'
theorem psd_for {is : List Nat} {qi : QL} {g : QG} {q : QS} {body : List Stmt} (hp : PassesOwn (model X.prog X.w) X.A X.env X.xe) (hc : X.calm = true) (hi : PIt J X tg iter qi) (hg : PGd J X tg is g) (hb : PSsd J X body q)
    (hs : ∀ x, foldedSetIterable iter X.env x = pure x := by intro _; rfl) : PSd J X (.For tg iter body [] pos) (qFor qi g q) := ps_mono (ps_for hp hc hi hg hb hs) fun D σ H ⟨n, H0, ρ, E, R, w, k1, k2, k3, k4⟩ => by
  refine ⟨n, H0, ρ, _, R, w, fun J' H1 H01 items ρ1 R1 S1 ⟨i1, i2, i3⟩ w1 => ?_⟩
  refine ⟨fun i m σ H => m = items.length - i ∧ i ≤ items.length ∧ ∃ H0c ρc, Rp X.K J n σ H H0c ρc ∧ Same H01 H0c ∧ loopD g q E (items.drop i) ρc, ⟨items.length, by simp, Nat.zero_le _, H01, ρ1, R1, .refl _, w1⟩, ?_⟩
  rintro i m σc Hc ⟨rfl, hle, H0c, ρc, Rc, Sc, wc⟩
  have same : Same H01 Hc := Sc.trans Rc.sub
  by_cases hi : i < items.length
  · have ed : items.drop i = items[i] :: items.drop (i + 1) := List.drop_eq_getElem_cons hi
    rw [ed] at wc
    refine .inr ⟨i1 i Hc same hi, fun σ' H' => ∃ H0c ρc, Rp X.K J n σ' H' H0c ρc ∧ Same H01 H0c ∧ loopD g q E (items.drop (i + 1)) ρc, fun σ' H' ⟨H0d, ρd, Rd, Sd, wd⟩ => ⟨items.length - (i + 1), by omega, rfl, hi, H0d, ρd, Rd, Sd, wd⟩, fun x H' hy => ?_⟩
    have go : ∀ H0e, Rp X.K J n σc H' H0e ρc → Same H01 H0e → Dq X.K H0e x items[i] → tG X.K J is g x σc H' fun σ2 H2 => tS X.K J q { D with
        nx := fun σ' H' => ∃ H0c ρc, Rp X.K J n σ' H' H0c ρc ∧ Same H01 H0c ∧ loopD g q E (items.drop (i + 1)) ρc, ct := fun σ' H' => ∃ H0c ρc, Rp X.K J n σ' H' H0c ρc ∧ Same H01 H0c ∧ loopD g q E (items.drop (i + 1)) ρc, bk := D.nx } σ2 H2 := fun H0e Re Se hd =>
      ⟨n, H0e, ρc, items[i], _, Re, hd, wc, fun σ2 ρ2 R2 _ w2 => ⟨n, H0e, ρ2, _, R2, w2, fun σ' H' H0' ρ' R' S' z => ⟨H0', ρ', R', Se.trans S', z⟩, fun v σ' H' H0' r ρ' R' S' => k2 v σ' H' H0' r ρ' R' ((S1.trans Se).trans S'),
        fun σ' H' H0' ρ' R' S' z => k1 σ' H' H0' ρ' R' ((S1.trans Se).trans S') z, fun σ' H' H0' ρ' R' S' z => ⟨H0', ρ', R', Se.trans S', z⟩⟩⟩
    rcases i3 i Hc H0c x H' items[i] Sc Rc.sub (List.getElem?_eq_getElem hi) hy with ⟨rfl, hd⟩ | ⟨T, xs, hT, rfl, hd⟩
    · exact go H0c Rc Sc hd
    · exact go _ (Rc.alloc hT) (Sc.trans (same_up (Rc.h0 hT))) hd
  · have ei : i = items.length := by omega
    subst ei
    rw [List.drop_length] at wc
    exact .inl ⟨i2 _ Hc same (Nat.le_refl _), k1 σc Hc H0c ρc Rc (S1.trans Sc) wc⟩
def qWhile (qc : QT) (q : QS) : QS := fun E ρ => ∃ W : Nat → List Sl → Prop, (∃ m, W m ρ) ∧ ∀ m ρ, W m ρ → qc ρ fun b ρ' => if b = true then q { nx := fun ρ => ∃ m', m' < m ∧ W m' ρ, rt := E.rt, bk := E.nx, ct := fun ρ => ∃ m', m' < m ∧ W m' ρ } ρ' else E.nx ρ'
theorem psd_while {qc : QT} {q : QS} {body : List Stmt} (hp : PassesOwn (model X.prog X.w) X.A X.env X.xe) (hc : PB J X c qc) (hb : PSsd J X body q) : PSd J X (.While c body [] pos) (qWhile qc q) := ps_mono (ps_while hp hc hb) fun D σ H ⟨n, H0, ρ, E, R, ⟨W, ⟨m0, w0⟩, turn⟩, k1, k2, k3, k4⟩ => by
  refine ⟨fun m σ H => ∃ H0c ρc, Rp X.K J n σ H H0c ρc ∧ Same H0 H0c ∧ W m ρc, ⟨m0, H0, ρ, R, .refl _, w0⟩, ?_⟩
  rintro m σc Hc ⟨H0c, ρc, Rc, Sc, wc⟩
  refine ⟨n, H0c, ρc, _, Rc, turn m ρc wc, fun x H1 H01 ρ1 R1 S1 w1 => ?_⟩
  cases x with
  | true =>
    exact ⟨fun σ' H' => ∃ m', m' < m ∧ ∃ H0c ρc, Rp X.K J n σ' H' H0c ρc ∧ Same H0 H0c ∧ W m' ρc, fun σ' H' ⟨m', h1, h2⟩ => ⟨m', h1, h2⟩, n, H01, ρ1, _, R1, w1, fun σ' H' H0' ρ' R' S' ⟨m', h1, h2⟩ => ⟨m', h1, H0', ρ', R', (Sc.trans S1).trans S', h2⟩, fun v σ' H' H0' r ρ' R' S' => k2 v σ' H' H0' r ρ' R' ((Sc.trans S1).trans S'),
      fun σ' H' H0' ρ' R' S' z => k1 σ' H' H0' ρ' R' ((Sc.trans S1).trans S') z, fun σ' H' H0' ρ' R' S' ⟨m', h1, h2⟩ => ⟨m', h1, H0', ρ', R', (Sc.trans S1).trans S', h2⟩⟩
  | false => exact k1 σc H1 H01 ρ1 R1 (Sc.trans S1) w1

/-! ### list comprehensions -/
def wipeD (ρ : List Sl) : List Nat → List Sl
  | [] => ρ
  | v :: vs => (wipeD ρ vs).set v .un
theorem Rp.wipe {K : PySem.W.Frag} {n : En} {σ : L2.St} {H H0 : Hp} {ρ : List Sl} (R : Rp K J n σ H H0 ρ) : ∀ vs, Rp K J n (L2.wipe σ vs) H H0 (wipeD ρ vs)
  | [] => R
  | v :: vs => (Rp.wipe R vs).forget v none
theorem wipe_get (σ : L2.St) : ∀ (vs : List Nat) (j : Nat), (L2.wipe σ vs)[j]? = if j ∈ vs then (if j < σ.length then some none else none) else σ[j]?
  | [], j => by rw [if_neg (by simp)]; rfl
  | v :: vs, j => by
    show ((L2.wipe σ vs).set v none)[j]? = _
    rw [get_set, wipe_length, wipe_get σ vs j]
    by_cases q : v = j
    · subst q
      rw [if_pos rfl, if_pos (List.mem_cons_self ..)]
    · rw [if_neg q]
      by_cases m : j ∈ vs
      · rw [if_pos m, if_pos (List.mem_cons_of_mem _ m)]
      · rw [if_neg m, if_neg (fun z => (List.mem_cons.mp z).elim (fun z => q z.symm) m)]
theorem wipe_off {σ σ2 : L2.St} {vs is : List Nat} (O : Off is (L2.wipe σ vs) σ2) (h : ∀ i ∈ is, i ∈ vs) : L2.wipe σ2 vs = L2.wipe σ vs := by
  apply List.ext_getElem?
  intro j
  have hl : σ2.length = σ.length := by rw [O.1, wipe_length]
  rw [wipe_get, wipe_get, hl]
  by_cases m : j ∈ vs
  · rw [if_pos m, if_pos m]
  · have q := O.2 j (fun z => m (h j z))
    rw [wipe_get, if_neg m] at q
    rw [if_neg m, if_neg m, q]
theorem wipeD_get (ρ : List Sl) : ∀ (vs : List Nat) (j : Nat), j ∉ vs → (wipeD ρ vs)[j]? = ρ[j]?
  | [], _, _ => rfl
  | v :: vs, j, h => by
    show ((wipeD ρ vs).set v .un)[j]? = _
    rw [get_set, if_neg (fun q => h (by rw [q]; exact List.mem_cons_self ..)), wipeD_get ρ vs j (fun z => h (List.mem_cons_of_mem _ z))]
/-- no list of the def's own is hidden by the comprehension's names -/
def noOw : Option Sl → Prop
  | some (.ow _) => False
  | _ => True
def clean (ρ : List Sl) : List Nat → Prop
  | [] => True
  | v :: vs => noOw ρ[v]? ∧ clean ρ vs
theorem clean_at {ρ : List Sl} : ∀ {vs : List Nat} {j : Nat}, clean ρ vs → j ∈ vs → ∀ ds, ρ[j]? ≠ some (.ow ds)
  | v :: vs, j, h, m, ds, e => by
    rcases List.mem_cons.mp m with q | q
    · subst q
      have z := h.1
      rw [e] at z
      exact z
    · exact clean_at h.2 q ds e
theorem Rp.unwipe {K : PySem.W.Frag} {n : En} {σ : L2.St} {H H0 H' H0' : Hp} {ρ : List Sl} {vs : List Nat} (R : Rp K J n σ H H0 ρ) (S : Same H0 H0') (hc : clean ρ vs) (R' : Rp K J n (L2.wipe σ vs) H' H0' (wipeD ρ vs)) : Rp K J n σ H' H0' ρ where
  len := R.len
  sub := R'.sub
  sl := fun j s e => by
    by_cases m : j ∈ vs
    · have q := R.sl j s e
      cases s with
      | un => trivial
      | da d => obtain ⟨v, h1, h2⟩ := q; exact ⟨v, h1, dp_mono S d v h2⟩
      | ow ds => exact absurd e (clean_at hc m ds)
      | ja => exact q
    · have q := R'.sl j s (by rw [wipeD_get ρ vs j m]; exact e)
      have g : (L2.wipe σ vs)[j]? = σ[j]? := by rw [wipe_get, if_neg m]
      cases s with
      | un => trivial
      | da d => obtain ⟨v, h1, h2⟩ := q; exact ⟨v, by rw [← g]; exact h1, h2⟩
      | ow ds => obtain ⟨a, xs, h1, h2⟩ := q; exact ⟨a, xs, by rw [← g]; exact h1, h2⟩
      | ja => exact ⟨by rw [← g]; exact q.1, q.2⟩
  sep := R.sep
  fr := R'.fr
  base := R'.base
  fresh := R'.fresh
  jar := R'.jar
  jdom := R'.jdom
  pin := R.pin
def qYes : QT := fun ρ P => P true ρ
abbrev PTsd (J : Jr) (X : Cx) (ifs : List Expr) (q : QT) : Prop := PTs X ifs (tT X.K J q)
theorem pts_mono {t t' : TT} (h : PTs X es t) (i : ∀ σ H Q, t' σ H Q → t σ H Q) : PTs X es t' := ⟨fun pins s σ H Q I w => h.run pins s σ H Q I (i _ _ _ w)⟩
theorem ptsd_nil : PTsd J X [] qYes := pts_mono pts_nil fun σ H Q ⟨n, H0, ρ, P, R, w, k⟩ => k true H H0 ρ R (.refl _) w
theorem ptsd_one {q : QT} (h : PB J X c q) : PTsd J X [c] q := pts_one h
def lcD (g : QG) (qt : QT) (q : QD) (vs : List Nat) (ρ : List Sl) (F : List D → Prop) : List D → List D → Prop
  | [], acc => F acc
  | d :: ds, acc => g d (wipeD ρ vs) fun ρ1 => qt ρ1 fun b ρ2 => if b = true then q ρ2 fun x ρ3 => wipeD ρ3 vs = wipeD ρ vs ∧ acc.length < sizeLine ∧ lcD g qt q vs ρ F ds (acc ++ [x]) else wipeD ρ2 vs = wipeD ρ vs ∧ lcD g qt q vs ρ F ds acc
def qLc (qi : QL) (g : QG) (qt : QT) (q : QD) (vs : List Nat) : QR := fun ρ P => qi ρ fun items ρ1 => clean ρ1 vs ∧ lcD g qt q vs ρ1 (fun acc => P (.ow acc) ρ1) items []
theorem lc_mono {is vs : List Nat} {qi : QL} {g : QG} {qt : QT} {q : QD} (hv : ∀ i ∈ is, i ∈ vs) : ∀ σ H Q, tR X.K J (qLc qi g qt q vs) σ H Q → tLc (tI X.K J qi) (tG X.K J is g) (tT X.K J qt) (tD X.K J q) vs σ H Q := fun σ H Q ⟨n, H0, ρ, P, R, w, k⟩ => by
  refine ⟨n, H0, ρ, _, R, w, fun J' H1 H01 items ρ1 R1 S1 ⟨i1, i2, i3⟩ ⟨hc, w1⟩ => ?_⟩
  intro L hL
  have L0 : n.He L = none := R1.he0 hL
  have La : L ∉ n.as := fun z => (R1.jdom L z).2 L0
  have Lb : n.H0 L = none := R1.base.free (R1.h0 hL)
  have inv : Nat → Nat → Hp → Prop := fun i m H => m = items.length - i ∧ i ≤ items.length ∧ ∃ H0c vacc acc, Rp X.K J n σ H H0c ρ1 ∧ Same H01 H0c ∧ H L = some (.lst vacc) ∧ DqAll X.K H0c vacc acc ∧ H0c L = none ∧ (∀ (i : Nat) (es : List D), ρ1[i]? = some (Sl.ow es) → σ[i]? ≠ some (some (V.ref L))) ∧ lcD g qt q vs ρ1 (fun acc => P (.ow acc) ρ1) (items.drop i) acc
  refine ⟨fun i m H => m = items.length - i ∧ i ≤ items.length ∧ ∃ H0c vacc acc, Rp X.K J n σ H H0c ρ1 ∧ Same H01 H0c ∧ H L = some (.lst vacc) ∧ DqAll X.K H0c vacc acc ∧ H0c L = none ∧ (∀ (i : Nat) (es : List D), ρ1[i]? = some (Sl.ow es) → σ[i]? ≠ some (some (V.ref L))) ∧ lcD g qt q vs ρ1 (fun acc => P (.ow acc) ρ1) (items.drop i) acc,
    ⟨items.length, by simp, Nat.zero_le _, H01, [], [], R1.laid hL, .refl _, upd_same, .nil, R1.h0 hL, R1.new hL, w1⟩, ?_⟩
  rintro i m Hc ⟨rfl, hle, H0c, vacc, acc, Rc, Sc, hl, hacc, h0, hs, wc⟩
  have same : Same H01 Hc := Sc.trans Rc.sub
  by_cases hi : i < items.length
  · have ed : items.drop i = items[i] :: items.drop (i + 1) := List.drop_eq_getElem_cons hi
    rw [ed] at wc
    refine .inr ⟨i1 i Hc same hi, fun H => ∃ H0c vacc acc, Rp X.K J n σ H H0c ρ1 ∧ Same H01 H0c ∧ H L = some (.lst vacc) ∧ DqAll X.K H0c vacc acc ∧ H0c L = none ∧ (∀ (i : Nat) (es : List D), ρ1[i]? = some (Sl.ow es) → σ[i]? ≠ some (some (V.ref L))) ∧ lcD g qt q vs ρ1 (fun acc => P (.ow acc) ρ1) (items.drop (i + 1)) acc,
      fun H' hN => ⟨items.length - (i + 1), by omega, rfl, hi, hN⟩, fun x H' hy => ?_⟩
    have go : ∀ H0e, Rp X.K J n σ H' H0e ρ1 → Same H0c H0e → H' L = some (.lst vacc) → H0e L = none → Dq X.K H0e x items[i] → tG X.K J is g x (L2.wipe σ vs) H' fun σ2 H2 => L2.wipe σ2 vs = L2.wipe σ vs ∧ tT X.K J qt σ2 H2 fun b H3 =>
        if b = true then tD X.K J q σ2 H3 fun y H4 => ∃ acc, H4 L = some (.lst acc) ∧ acc.length < sizeLine ∧ (fun H => ∃ H0c vacc acc, Rp X.K J n σ H H0c ρ1 ∧ Same H01 H0c ∧ H L = some (.lst vacc) ∧ DqAll X.K H0c vacc acc ∧ H0c L = none ∧ (∀ (i : Nat) (es : List D), ρ1[i]? = some (Sl.ow es) → σ[i]? ≠ some (some (V.ref L))) ∧ lcD g qt q vs ρ1 (fun acc => P (.ow acc) ρ1) (items.drop (i + 1)) acc) (upd H4 L (.lst (acc ++ [y])))
        else (fun H => ∃ H0c vacc acc, Rp X.K J n σ H H0c ρ1 ∧ Same H01 H0c ∧ H L = some (.lst vacc) ∧ DqAll X.K H0c vacc acc ∧ H0c L = none ∧ (∀ (i : Nat) (es : List D), ρ1[i]? = some (Sl.ow es) → σ[i]? ≠ some (some (V.ref L))) ∧ lcD g qt q vs ρ1 (fun acc => P (.ow acc) ρ1) (items.drop (i + 1)) acc) H3 := by
      intro H0e Re Se hLe h0e hd
      have Rk : Rp X.K J (n.keep L (.lst vacc)) (L2.wipe σ vs) H' H0e (wipeD ρ1 vs) := (Re.keep hLe h0e L0 hs).wipe vs
      refine ⟨n.keep L (.lst vacc), H0e, _, items[i], _, Rk, hd, wc, fun σ2 ρ2 R2 O2 w2 => ?_⟩
      have ew := wipe_off O2 hv
      refine ⟨ew, n.keep L (.lst vacc), H0e, ρ2, _, R2, w2, fun bb H3 H03 ρ3 R3 S3 w3 => ?_⟩
      have back : ∀ H4 H04 ρ4, Rp X.K J (n.keep L (.lst vacc)) σ2 H4 H04 ρ4 → Same H0e H04 → wipeD ρ4 vs = wipeD ρ1 vs → Rp X.K J n σ H4 H04 ρ1 ∧ H4 L = some (.lst vacc) ∧ H04 L = none := fun H4 H04 ρ4 R4 S4 e4 => by
        have z := R4.wipe vs
        rw [ew, e4] at z
        have z2 := Rp.unkeep L0 Rc.jdom z
        exact ⟨Re.unwipe S4 hc z2, Rp.kept La R4, Rp.kept0 Lb R4⟩
      cases bb with
      | true =>
        refine ⟨n.keep L (.lst vacc), H03, ρ3, _, R3, w3, fun y H4 H04 d ρ4 R4 S4 hy ⟨e4, hlen, w4⟩ => ?_⟩
        obtain ⟨b1, b2, b3⟩ := back H4 H04 ρ4 R4 (S3.trans S4) e4
        refine ⟨vacc, b2, by rw [dpa_len hacc]; exact hlen, H04, vacc ++ [y], acc ++ [d], ?_, ((Sc.trans Se).trans S3).trans S4, upd_same, dpa_app (dpa_mono ((Se.trans S3).trans S4) acc vacc hacc) (dpa_one hy), b3, hs, w4⟩
        -- the list grows: nothing of the state speaks of it
        refine ⟨b1.len, fun c o z => ?_, fun j s z => ?_, b1.sep, fun c o hcn z => ?_, b1.base, b1.fresh, fun z => ?_, b1.jdom, b1.pin⟩
        · rw [upd_ne (ne_of_none z b3)]; exact b1.sub c o z
        · have qq := b1.sl j s z
          cases s with
          | un => trivial
          | da d => exact qq
          | ow ds =>
            obtain ⟨a, xs, p1, p2, p3, p4, p5⟩ := qq
            have na : a ≠ L := fun t => hs j ds z (by rw [p1, t])
            exact ⟨a, xs, p1, by rw [upd_ne na]; exact p2, p3, p4, p5⟩
          | ja => exact qq
        · rw [upd_ne (ne_of_none z L0)]; exact b1.fr c o hcn z
        · exact J.loc (fun c hcn => upd_ne (fun t => La (by rw [← t]; exact hcn))) (b1.jar z)
      | false =>
        obtain ⟨e3, w3⟩ := w3
        obtain ⟨b1, b2, b3⟩ := back H3 H03 ρ3 R3 S3 e3
        exact ⟨H03, vacc, acc, b1, (Sc.trans Se).trans S3, b2, dpa_mono (Se.trans S3) acc vacc hacc, b3, hs, w3⟩
    rcases i3 i Hc H0c x H' items[i] Sc Rc.sub (List.getElem?_eq_getElem hi) hy with ⟨rfl, hd⟩ | ⟨T, xs, hT, rfl, hd⟩
    · exact go H0c Rc (.refl _) hl h0 hd
    · have nT : L ≠ T := ne_of_none hl hT
      exact go _ (Rc.alloc hT) (same_up (Rc.h0 hT)) (by rw [upd_ne nT]; exact hl) (by rw [upd_ne nT]; exact h0) hd
  · have ei : i = items.length := by omega
    subst ei
    rw [List.drop_length] at wc
    exact .inl ⟨i2 _ Hc same (Nat.le_refl _), k _ Hc H0c (.ow acc) ρ1 Rc (S1.trans Sc) ⟨L, vacc, rfl, hl, hacc, h0, L0, hs⟩ wc⟩
theorem pr_lc {ifs : List Expr} {scope : Scope} {own : List (Str × Nat)} {is : List Nat} {qi : QL} {g : QG} {qt : QT} {q : QD} (hc : X.calm = true) (hN : X.N.Nodup) (hi : PIt J X tg iter qi) (ok : BlkOk X.N X.env.scope scope own)
    (hg : ∀ (s : Shared) (H : Hp) (C : Addr) (cl : List (Str × Addr)) (fp : List Addr), PGd J (X.blk s H scope (compEnvC scope cl C X.env) fp) tg is g) (ht : ∀ (s : Shared) (H : Hp) (C : Addr) (cl : List (Str × Addr)) (fp : List Addr), PTsd J (X.blk s H scope (compEnvC scope cl C X.env) fp) ifs qt)
    (he : ∀ (s : Shared) (H : Hp) (C : Addr) (cl : List (Str × Addr)) (fp : List Addr), PD J (X.blk s H scope (compEnvC scope cl C X.env) fp) elt q) (hv : ∀ i ∈ is, i ∈ own.map (·.2)) (hs : ∀ x, foldedSetIterable iter X.env x = pure x := by intro _; rfl) :
    PR J X (.ListComp elt [⟨tg, iter, ifs, 0⟩] scope pos) (qLc qi g qt q (own.map (·.2))) := pe_mono (pe_lc hc hN hi ok hg ht he hs) (lc_mono hv)
theorem psd_setLc {i : Nat} {y : Str} {py spos : Pos} {ifs : List Expr} {scope : Scope} {own : List (Str × Nat)} {is : List Nat} {qi : QL} {g : QG} {qt : QT} {q : QD} (hc : X.calm = true) (hN : X.N.Nodup) (hy : X.N[i]? = some y) (hyl : X.env.scope.names.lookup y = some .local) (hpin : ∀ p, J.pin ≠ some (i, p))
    (hsw : swapsWith (.ListComp elt [⟨tg, iter, ifs, 0⟩] scope pos) (some (.Name y py)) spos.line X.env = pure true) (hi : PIt J X tg iter qi) (ok : BlkOk X.N X.env.scope scope own)
    (hg : ∀ (s : Shared) (H : Hp) (C : Addr) (cl : List (Str × Addr)) (fp : List Addr), PGd J (X.blk s H scope (compEnvC scope cl C X.env) fp) tg is g) (ht : ∀ (s : Shared) (H : Hp) (C : Addr) (cl : List (Str × Addr)) (fp : List Addr), PTsd J (X.blk s H scope (compEnvC scope cl C X.env) fp) ifs qt)
    (he : ∀ (s : Shared) (H : Hp) (C : Addr) (cl : List (Str × Addr)) (fp : List Addr), PD J (X.blk s H scope (compEnvC scope cl C X.env) fp) elt q) (hv : ∀ i ∈ is, i ∈ own.map (·.2)) (hs : ∀ x, foldedSetIterable iter X.env x = pure x := by intro _; rfl) :
    PSd J X (.Assign [.Name y py] (.ListComp elt [⟨tg, iter, ifs, 0⟩] scope pos) spos) (qSet i (qLc qi g qt q (own.map (·.2)))) := ps_mono (ps_setLc hc hN hy hyl hsw hi ok hg ht he hs) (set_mono (lc_mono hv) hpin)
end

/-! ### a def keeps its promise -/
def slA : Ag → Sl
  | .d x => .da x
  | .j => .ja
def startD (m : Nat) (gs : List Ag) : List Sl := gs.map slA ++ List.replicate (m - gs.length) .un
theorem pair_len {α β : Type} {p : α → β → Prop} : ∀ {xs : List α} {ys : List β}, Paired p xs ys → xs.length = ys.length
  | _, _, .nil => rfl
  | _, _, .cons _ t => by rw [List.length_cons, List.length_cons, pair_len t]
theorem pair_get {α β : Type} {p : α → β → Prop} : ∀ {xs : List α} {ys : List β} {i : Nat} {y : β}, Paired p xs ys → ys[i]? = some y → ∃ x, xs[i]? = some x ∧ p x y
  | _, _, _, _, .nil, e => by simp at e
  | _, _, 0, _, .cons h _, e => by cases e; exact ⟨_, rfl, h⟩
  | _, _, i + 1, _, .cons _ t, e => pair_get (i := i) t e
theorem def_body {X : Cx} {J : Jr} {body : List Stmt} {sc : Scope} {N ps : List Str} {pp : PPr} {qs : QS} {vs : List V} {H : Hp} {Q : VK} {E : XK} (S : FnScope N ps sc) (hl : ∀ gs R, pp gs R → gs.length = ps.length) (hb : PSsd J X body qs)
    (spec : ∀ gs R, pp gs R → qs ⟨fun _ => R (.da .none), fun r _ => R r, fun _ => False, fun _ => False⟩ (startD N.length gs)) (z : spD X.K J pp vs H Q E) : ∃ t, PSs X body t ∧ t { nx := fun _ H' => Q .non H', rt := Q } (L2.start N vs) H := by
  obtain ⟨H0, as, jv, gs, h1, h2, h3, h4, R, h5, h6⟩ := z
  let K := X.K
  refine ⟨_, hb, ⟨H, H0, as, jv⟩, H0, startD N.length gs, ⟨fun _ => R (.da .none), fun r _ => R r, fun _ => False, fun _ => False⟩, ?_, spec gs R h5, fun σ' H' H0' ρ' R' S' z => h6 (.da .none) .non H' z (R'.ret (r := .da .none) Dq.non), fun v σ' H' H0' r ρ' R' S' hr z => h6 r v H' z (R'.ret hr), fun _ _ _ _ _ _ z => z, fun _ _ _ _ _ _ z => z⟩
  have hlen := pair_len h4
  refine ⟨?_, h1, fun i s e => ?_, fun i j ds es _ e _ => ?_, fun a o _ e => e, .refl _, fun a e _ => e, h2, h3, fun i p _ ds e => ?_⟩
  · unfold L2.start startD
    rw [List.length_append, List.length_append, List.length_map, List.length_map, List.length_replicate, List.length_replicate, hlen]
  · unfold startD at e
    by_cases q : i < gs.length
    · rw [List.getElem?_append_left (by rw [List.length_map]; exact q), List.getElem?_map] at e
      have hs : (L2.start N vs)[i]? = vs[i]?.map some := by
        unfold L2.start
        rw [List.getElem?_append_left (by rw [List.length_map, hlen]; exact q), List.getElem?_map]
      cases z : gs[i]? with
      | none => rw [z] at e; cases e
      | some g =>
        rw [z] at e
        cases e
        obtain ⟨v, w1, w2⟩ := pair_get h4 z
        cases g with
        | d x => exact ⟨v, by rw [hs, w1]; rfl, w2⟩
        | j => exact ⟨by rw [hs, w1, w2.1]; rfl, w2.2⟩
    · rw [List.getElem?_append_right (by rw [List.length_map]; omega), List.getElem?_replicate] at e
      split at e
      · cases e; trivial
      · cases e
  · unfold startD at e
    by_cases q : i < gs.length
    · rw [List.getElem?_append_left (by rw [List.length_map]; exact q), List.getElem?_map] at e
      cases z : gs[i]? with
      | none => rw [z] at e; cases e
      | some g => rw [z] at e; cases g <;> cases e
    · rw [List.getElem?_append_right (by rw [List.length_map]; omega), List.getElem?_replicate] at e
      split at e <;> cases e
  · exfalso
    unfold startD at e
    by_cases q : i < gs.length
    · rw [List.getElem?_append_left (by rw [List.length_map]; exact q), List.getElem?_map] at e
      cases z : gs[i]? with
      | none => rw [z] at e; cases e
      | some g => rw [z] at e; cases g <;> cases e
    · rw [List.getElem?_append_right (by rw [List.length_map]; omega), List.getElem?_replicate] at e
      split at e <;> cases e
end Zd

set_option Elab.async false
set_option linter.all false
set_option maxRecDepth 100000
set_option maxHeartbeats 4000000
namespace Zd
open PySem PySem.Spec PyProof.Rows L2
/-! ### defs by name -/
/-- a def of the text, as it stands behind the top -/
abbrev FnP (K : PySem.W.Frag) (x : Str) (st : Stmt) (f : Addr) (fd : FuncData) : Prop := FunD K x x (defArgs st) (defBody st) (defScope st) [] [] f fd
/-- its arguments by keywords: idx tells where each parameter's value stands among them -/
def KwOk (K : PySem.W.Frag) (fd : FuncData) (ps ks : List Str) (idx : List Nat) : Prop := ∀ (s : Shared) (ws : List Value), K.In s.heap → ws.length = ks.length → BindsTo s fd ⟨[], ks.zip ws⟩ (ps.zip (idx.map fun i => ws.getD i .none))
/-- a def that keeps its promise, ready to be called -/
structure CalD (P : Program) (w : World) (K : PySem.W.Frag) (mg : Str → Option Value) (base : Heap) (J : Jr) (k : Nat) (x : Str) (st : Stmt) (ps : List Str) (pp : PPr) : Prop where
  ex : ∃ f fd, FnOk P w K mg base CX0 k f fd ps (spD K J pp) ∧ mg x = some (.ref f) ∧ FnP K x st f fd ∧ Binds K fd ps []
section
variable {X : Cx} {J : Jr} {e a b c : Expr} {es : List Expr} {pos : Pos}
theorem pr_callC {pp : PPr} {qa : QA} {k k' : Nat} {ps : List Str} {x : Str} {st : Stmt} {p : Pos} (C : CalD X.prog X.w X.K X.mg X.base J k x st ps pp) (hr : Room k' X.A) (hk : k ≤ k') (hg : Gl X x)
    (ha : PAa J X (e :: es) qa) (hdb : (x == ("__debug__" : Str)) = false := by decide) (he : starEach (e :: es) X.env = (false, eval e X.env) :: starEach es X.env := by rfl) (hpl : (backTo pos (starEach es X.env)).any (·.1) = false := by rfl) :
    PR J X (.Call (.Name x p) (e :: es) [] pos) (qCall pp qa) := by
  obtain ⟨f, fd, F, hm, G, hb⟩ := C.ex
  exact pr_call F (hr.mono hk) hg hm G.kp hb ha hdb he hpl
/-- the keywords' values, from the left -/
abbrev PKa (J : Jr) (X : Cx) (kws : List Keyword) (q : QA) : Prop := PK X kws (tA X.K J q)
theorem pk_mono {kws : List Keyword} {t t' : TA} (h : PK X kws t) (i : ∀ σ H Q, t' σ H Q → t σ H Q) : PK X kws t' := ⟨fun pos pins s σ H Q I w => h.run pos pins s σ H Q I (i _ _ _ w)⟩
theorem pka_nil : PKa J X [] qaNil := pk_mono pk_nil fun σ H Q ⟨n, H0, ρ, P, R, w, k⟩ => k [] H H0 [] ρ R (.refl _) .nil w
theorem pka_d {nm : Option Str} {kpos : Pos} {kws : List Keyword} {qa : QD} {qr : QA} (ha : PD J X e qa) (hr : PKa J X kws qr) : PKa J X (⟨nm, e, kpos⟩ :: kws) (qaD qa qr) :=
  pk_mono (pk_cons ha hr) fun σ H Q ⟨n, H0, ρ, P, R, w, k⟩ => ⟨n, H0, ρ, _, R, w, fun x H1 H01 d ρ1 R1 S1 hd w1 => ⟨n, H01, ρ1, _, R1, w1, fun xs H2 H02 as ρ2 R2 S2 hds w2 =>
    k (x :: xs) H2 H02 (.d d :: as) ρ2 R2 (S1.trans S2) (.cons (dp_mono S2 d x hd) hds) w2⟩⟩
theorem pka_n {nm : Option Str} {kpos : Pos} {kws : List Keyword} {i : Nat} {qr : QA} (ha : PE X e (tVar i)) (hr : PKa J X kws qr) : PKa J X (⟨nm, e, kpos⟩ :: kws) (qaN i qr) :=
  pk_mono (pk_cons ha hr) fun σ H Q ⟨n, H0, ρ, P, R, w, k⟩ => by
    obtain ⟨v, hv⟩ := R.givenV w.1
    exact ⟨v, hv, n, H0, ρ, _, R, w.2, fun xs H2 H02 as ρ2 R2 S2 hds w2 => k (v :: xs) H2 H02 (.n i :: as) ρ2 R2 S2 (.cons hv hds) w2⟩
/-- the arguments in the parameters' order -/
def reord {α : Type} (d : α) (idx : List Nat) (xs : List α) : List α := idx.map fun i => xs.getD i d
def qReord (idx : List Nat) (m : Nat) (q : QA) : QA := fun ρ P => q ρ fun as ρ' => as.length = m ∧ P (reord (.d .none) idx as) ρ'
theorem pe_callK0 {sp : Sp} {k : Nat} {f : Addr} {fd : FuncData} {ps ks : List Str} {idx : List Nat} {x : Str} {p : Pos} {kws : List Keyword} {tk : TA} {E : XK} {CX : CXT} (F : FnOk X.prog X.w X.K X.mg X.base CX k f fd ps sp) (hr : Room k X.A) (hg : Gl X x) (hm : X.mg x = some (.ref f)) (hk : PySem.W.keepIn X.K (.ref f) = true)
    (hb : KwOk X.K fd ps ks idx) (hix : ∀ i ∈ idx, i < ks.length) (hil : idx.length = ps.length) (hx : Passes CX X E) (hkw : PK X kws tk) (hall : (backToKw pos (keywordEach kws X.env)).all (·.1.isSome) = true) (hks : (backToKw pos (keywordEach kws X.env)).filterMap (·.1) = ks)
    (hdb : (x == ("__debug__" : Str)) = false) (hpl : ((backTo pos (starEach [] X.env)).any (·.1) || (backToKw pos (keywordEach kws X.env)).any (·.1.isNone)) = false) :
    PE X (.Call (.Name x p) [] kws pos) (fun σ H Q => tk σ H fun zs H2 => zs.length = ks.length ∧ sp (reord .non idx zs) H2 Q E) := by
  refine ⟨fun pins s σ H Q I h => wpAny_Call_Name_kw (ld_glob I hg hm ?_ hdb)⟩
  refine PySem.W.callWith_KW0 (h₀ := X.base) I.ok.mod.kin hk hall (thn (hkw.run pos pins s σ H _ I h) fun ws s2 ⟨zs, H2, I2, rz, hl, q2⟩ => ⟨I2.kIn, ?_⟩) hpl
  have hlw : ws.length = ks.length := by rw [← rz.length, hl]
  have rr : Vals (reord .non idx zs) (idx.map fun i => ws.getD i .none) := by
    have all : ∀ (js : List Nat), (∀ j ∈ js, j < ks.length) → Vals (reord .non js zs) (js.map fun i => ws.getD i .none) := by
      intro js
      induction js with
      | nil => exact fun _ => .nil
      | cons j r ih =>
        intro hj
        refine .cons ?_ (ih fun i hi => hj i (List.mem_cons_of_mem _ hi))
        have hz : j < zs.length := by rw [hl]; exact hj j (List.mem_cons_self ..)
        obtain ⟨u, hu, ru⟩ := Vals.get rz (List.getElem?_eq_getElem hz)
        show RelV (zs.getD j V.non) (ws.getD j Value.none)
        rw [List.getD_eq_getElem?_getD, List.getD_eq_getElem?_getD, List.getElem?_eq_getElem hz, hu]
        exact ru
    exact all idx hix
  rw [hks]
  refine wpAny_call (codeAny_mono (F.run X.A X.stack s2 H2 ⟨[], ks.zip ws⟩ _ _ Q E hr I2.env0 (hb s2 ws I2.kIn hlw) rr q2) fun r s' hq => ?_)
  cases r with
  | error er => exact hx pins σ H2 s2 er s' I2 hq
  | ok fl =>
    cases fl with
    | ret u => exact I2.after hq
    | _ => exact hq.elim
theorem pair_reord {p : V → A → Prop} (h0 : p .non (.d .none)) : ∀ (idx : List Nat) {vs : List V} {as : List A}, Paired p vs as → Paired p (reord .non idx vs) (reord (.d .none) idx as)
  | [], _, _, _ => .nil
  | i :: r, vs, as, h => by
    refine .cons ?_ (pair_reord h0 r h)
    show p (vs.getD i V.non) (as.getD i (A.d PyData.none))
    rw [List.getD_eq_getElem?_getD, List.getD_eq_getElem?_getD]
    cases e : as[i]? with
    | none =>
      have : vs[i]? = none := List.getElem?_eq_none_iff.mpr (by rw [pair_len h]; exact List.getElem?_eq_none_iff.mp e)
      rw [this]
      exact h0
    | some x =>
      obtain ⟨v, hv, hp⟩ := pair_get h e
      rw [hv]
      exact hp
theorem pr_callKC {pp : PPr} {qa : QA} {k k' : Nat} {ps ks : List Str} {idx : List Nat} {x : Str} {st : Stmt} {p : Pos} {kws : List Keyword} (C : CalD X.prog X.w X.K X.mg X.base J k x st ps pp) (hr : Room k' X.A) (hk : k ≤ k') (hg : Gl X x)
    (hb : ∀ fd (f : Addr), FnP X.K x st f fd → KwOk X.K fd ps ks idx) (ha : PKa J X kws qa) (hix : ∀ i ∈ idx, i < ks.length) (hil : idx.length = ps.length)
    (hall : (backToKw pos (keywordEach kws X.env)).all (·.1.isSome) = true := by rfl) (hks : (backToKw pos (keywordEach kws X.env)).filterMap (·.1) = ks := by rfl)
    (hdb : (x == ("__debug__" : Str)) = false := by decide) (hpl : ((backTo pos (starEach [] X.env)).any (·.1) || (backToKw pos (keywordEach kws X.env)).any (·.1.isNone)) = false := by rfl) :
    PR J X (.Call (.Name x p) [] kws pos) (qCall pp (qReord idx ks.length qa)) := by
  obtain ⟨f, fd, F, hm, G, _⟩ := C.ex
  refine pe_mono (pe_callK0 F (hr.mono hk) hg hm G.kp (hb fd f G) hix hil pass0 ha hall hks hdb hpl) fun σ H Q z => ?_
  obtain ⟨n, H0, ρ, P, R, w, kk⟩ := z
  refine ⟨n, H0, ρ, _, R, w, fun vs H1 H01 as ρ1 R1 S1 hp ⟨hl, w1⟩ => ⟨by rw [pair_len hp, hl], ?_⟩⟩
  have z2 : tCall (spD X.K J pp) [] E0 (fun σ' H' Q' => Q' (reord .non idx vs) H') σ H1 Q := by
    obtain ⟨gs, hg2, w2⟩ := w1
    obtain ⟨H0f, Sf, Rf, hf⟩ := Rp.args (.refl H01) (reord (.d .none) idx as) ρ1 H01 (reord .non idx vs) gs R1 (pair_reord .non idx hp) hg2
    show spD X.K J pp (reord .non idx vs ++ []) H1 Q E0
    rw [List.append_nil]
    refine ⟨H0f, n.as, n.jv, gs, Rf.sub, R1.jar, Rf.jarOk, hf, _, w2, fun r v H' hb hr => ?_⟩
    have hb : behind ρ1 (reord (.d .none) idx as) P r := hb
    have gen : P r (frzs ρ1 (reord (.d .none) idx as)) → Q v H' := fun hp => by
      obtain ⟨H0', S', R', hres⟩ := Rf.call hr
      exact kk v H' H0' r _ R' ((S1.trans Sf).trans S') hres hp
    cases r with
    | da d =>
      have hb' : if flatD d = true then P (.da d) ρ1 else P (.da d) (frzs ρ1 (reord (.d .none) idx as)) := hb
      by_cases f : flatD d = true
      · rw [if_pos f] at hb'
        have R' := R1.callF Rf hr
        obtain ⟨H0', _, _, _, _, _, h6⟩ := hr
        exact kk v H' H01 (.da d) ρ1 R' S1 (flat_any h6 f) hb'
      · rw [if_neg f] at hb'
        exact gen hb'
    | un => exact gen hb
    | ow ds => exact gen hb
    | ja => exact gen hb
  have z3 : spD X.K J pp (reord .non idx vs ++ []) H1 Q E0 := z2
  rw [List.append_nil] at z3
  exact z3
/-- an item of the def's own list is stored -/
theorem dpa_set {K : PySem.W.Frag} {H : Hp} {v : V} {d : D} (h : Dq K H v d) : ∀ {ds : List D} {vs : List V} (j : Nat), DqAll K H vs ds → DqAll K H (vs.set j v) (ds.set j d)
  | [], _, _, q => by cases q; exact .nil
  | _ :: _, _, 0, q => by cases q with | cons q1 q2 => exact .cons h q2
  | _ :: _, _, j + 1, q => by cases q with | cons q1 q2 => exact .cons q1 (dpa_set h j q2)
def isOw (s : Option Sl) : Prop := match s with
  | some (.ow _) => True
  | _ => False
def putOw (s : Option Sl) (P : List D → Prop) : Prop := match s with
  | some (.ow ds) => P ds
  | _ => False
def qPut (i : Nat) (qe qi : QD) : QS := fun E ρ => qe ρ fun d ρ1 => isOw ρ1[i]? ∧ qi ρ1 fun k ρ2 => ∃ kk, k = .int kk ∧ putOw ρ2[i]? fun ds => ∃ j, ixN ds.length kk = some j ∧ E.nx (ρ2.set i (.ow (ds.set j d)))
theorem psd_put {i : Nat} {qe qi : QD} {o ix : Expr} {p2 : Pos} (ho : PE X o (tVar i)) (hi : PD J X ix qi) (he : PD J X e qe) (hs : swapsWithSole [.Subscript o ix p2] e pos.line X.env = pure false := by rfl) (hw : swappedStores [.Subscript o ix p2] e X.env = pure none := by rfl)
    (h1 : (assignEach [.Subscript o ix p2] X.env).map (·.2) = [assign (.Subscript o ix p2) X.env] := by rfl)
    (hz : ∀ u, assign (.Subscript o ix p2) X.env u = (do
      let ov ← holding [u] (eval o X.env)
      let iv ← holding [u, ov] (eval ix X.env)
      standAt p2
      holding [u, ov, iv] (setItem ov iv u)
      release [u, ov, iv] []) := by intro _; rfl) : PSd J X (.Assign [.Subscript o ix p2] e pos) (qPut i qe qi) :=
  ps_mono (ps_asg he (pg_sub ho hi set_list hz) hs hw h1) fun D σ H ⟨n, H0, ρ, E, R, w, k, _⟩ => ⟨n, H0, ρ, _, R, w, fun v H1 H01 d ρ1 R1 S1 hd ⟨ho, w1⟩ => by
    cases e1 : ρ1[i]? with
    | none => rw [e1] at ho; exact ho.elim
    | some s =>
      rw [e1] at ho
      cases s with
      | ow ds =>
        obtain ⟨a, xs, g1, g2, g3, g4, g5⟩ := R1.sl i _ e1
        refine ⟨_, g1, n, H01, ρ1, _, R1, w1, fun u H2 H02 kd ρ2 R2 S2 hk ⟨kk, ek, w2⟩ => ?_⟩
        subst ek
        cases e2 : ρ2[i]? with
        | none => rw [e2] at w2; exact w2.elim
        | some s2 =>
          rw [e2] at w2
          cases s2 with
          | ow es =>
            obtain ⟨j, hj, hp⟩ := w2
            obtain ⟨b, ys, f1, f2, f3, f4, f5⟩ := R2.sl i _ e2
            rw [g1] at f1
            cases f1
            exact ⟨a, ys, kk, j, rfl, dp_int hk, f2, by rw [dpa_len f3]; exact hj, k σ _ H02 _ (R2.own_put e2 g1 (dpa_set (dp_mono S2 d v hd) j f3)) (S1.trans S2) hp⟩
          | _ => exact w2.elim
      | _ => exact ho.elim⟩
/-- data that the module holds -/
theorem pd_glob {x : Str} {d : D} {p : Pos} (hg : Gl X x) (h : ∃ u v, X.mg x = some u ∧ RelV v u ∧ ∀ H0, Dq X.K H0 v d) (hdb : (x == ("__debug__" : Str)) = false := by decide) : PD J X (.Name x p) (qC d) := by
  obtain ⟨u, v, h1, h2, h3⟩ := h
  exact pd_c (pe_glob hg h1 h2 hdb) h3
/-- e.bit_length() of an int -/
def qBits (q : QD) : QD := fun ρ P => q ρ fun d ρ' => ∃ i, d = .int i ∧ P (.int (Builtin.Int.intBits i)) ρ'
theorem pd_bits {q : QD} {apos : Pos} (ho : PD J X e q) (hbase : attributeBase e "bit_length" X.env (eval e X.env) = eval e X.env := by rfl) (hline : (apos.endLine == pos.line) = true := by rfl) : PD J X (.Call (.Attribute e "bit_length" apos) [] [] pos) (qBits q) :=
  pe_mono (pe_bits ho hbase hline) fun σ H Q ⟨n, H0, ρ, P, R, w, k⟩ => ⟨n, H0, ρ, _, R, w, fun v H1 H01 d ρ1 R1 S1 hd ⟨i, ei, hp⟩ => by
    subst ei
    exact ⟨i, dp_int hd, k _ H1 H01 _ ρ1 R1 S1 (.int _) hp⟩⟩
end
theorem kw_of {K : PySem.W.Frag} {x : Str} {st : Stmt} {f : Addr} {fd : FuncData} {ps ks : List Str} {idx : List Nat} (F : FnP K x st f fd)
    (h : ∀ (kV doc pm : Value) (an : Option Addr) (cdv ct : Value) (ws : List Value), ws.length = ks.length → bindArgs (PySem.W.fnOf x x (defArgs st) (defBody st) (defScope st) .none kV doc pm an cdv ct) ⟨[], ks.zip ws⟩ = pure (ps.zip (idx.map fun i => ws.getD i .none))) : KwOk K fd ps ks idx := by
  obtain ⟨oc, od, dV, kV, doc, pm, an, cdv, ct, osl, rfl, lk, hcd, hD, hK⟩ := F.ex
  rcases hD with ⟨_, rfl⟩ | ⟨e, _⟩
  · exact fun s ws _ hl => .of_eq (h kV doc pm an cdv ct ws hl)
  · exact absurd rfl e
/-- a def's promise from its body; by its place in the text -/
theorem defD_ok {P : Program} {w : World} {K : PySem.W.Frag} {mg : Str → Option Value} {base : Heap} {J : Jr} {x : Str} {st : Stmt} {f : Addr} {fd : FuncData} {N ps : List Str} {k : Nat} {pp : PPr} {qs : QS} (F : FnP K x st f fd) (hx : mg x = some (.ref f)) (S : FnScope N ps (defScope st)) (hB : Binds K fd ps [])
    (hl : ∀ gs R, pp gs R → gs.length = ps.length) (hb : ∀ (cdv : Value) (A : Around) (outer : List Env) (s : Shared) (H : Hp) (E : XK), Room k (A.deeper (envOfC x (defScope st) s.heap.objs.size f cdv)) →
      PSsd J (cxOf CX0 P w K mg base N x (defScope st) f cdv A outer s H E).nox (defBody st) qs)
    (spec : ∀ gs R, pp gs R → qs ⟨fun _ => R (.da .none), fun r _ => R r, fun _ => False, fun _ => False⟩ (startD N.length gs)) : CalD P w K mg base J (k + 1) x st ps pp := by
  refine ⟨f, fd, ?_, hx, F, hB⟩
  refine FunD.ok F S (fun vs H Q E ⟨H0, as, jv, gs, _, _, _, h, R, h2, _⟩ => by rw [pair_len h]; exact hl gs R h2) (fun cdv A outer s H vs Q E hr z => ?_)
  obtain ⟨t, h1, h2⟩ := def_body S hl (hb cdv A outer s H E hr) spec z
  exact ⟨t, h1.nox, h2⟩
end Zd

set_option Elab.async false
set_option linter.all false
set_option maxRecDepth 100000
set_option maxHeartbeats 4000000
namespace Zd
open PySem PySem.Spec PyProof.Rows L2
def EndD.thn (E : EndD) (P : List Sl → Prop) : EndD := { E with nx := P }
theorem thn_nx (E : EndD) (P : List Sl → Prop) (ρ : List Sl) : (E.thn P).nx ρ = P ρ := rfl
theorem thn_rt (E : EndD) (P : List Sl → Prop) (r : Sl) (ρ : List Sl) : (E.thn P).rt r ρ = E.rt r ρ := rfl
theorem thn_bk (E : EndD) (P : List Sl → Prop) (ρ : List Sl) : (E.thn P).bk ρ = E.bk ρ := rfl
theorem thn_ct (E : EndD) (P : List Sl → Prop) (ρ : List Sl) : (E.thn P).ct ρ = E.ct ρ := rfl
/-! ### reading the meanings -/
theorem qRD_e (q : QD) (ρ : List Sl) (P : Sl → List Sl → Prop) : qRD q ρ P = (q ρ fun d ρ' => P (.da d) ρ') := rfl
theorem qDR_e (q : QR) (ρ : List Sl) (P : D → List Sl → Prop) : qDR q ρ P = (q ρ fun r ρ' => asD r fun d => P d ρ') := rfl
theorem qLook_e (i : Nat) (ρ : List Sl) (P : D → List Sl → Prop) : qLook i ρ P = (seeD ρ[i]? fun d => P d ρ) := rfl
theorem qVar_e (i : Nat) (ρ : List Sl) (P : D → List Sl → Prop) : qVar i ρ P = (seeD ρ[i]? fun d => P d (frz ρ i)) := rfl
theorem qMove_e (i : Nat) (ρ : List Sl) (P : Sl → List Sl → Prop) : qMove i ρ P = (match ρ[i]? with
  | some (.da d) => P (.da d) ρ
  | some (.ow ds) => P (.ow ds) (ρ.set i .un)
  | _ => False) := rfl
theorem qC_e (d : D) (ρ : List Sl) (P : D → List Sl → Prop) : qC d ρ P = (P d ρ) := rfl
theorem qBin_e (f : DOp) (qa qb : QD) (ρ : List Sl) (P : Sl → List Sl → Prop) : qBin f qa qb ρ P = (qa ρ fun d ρ1 => qb ρ1 fun e ρ2 => f d e fun s => P s ρ2) := rfl
theorem qBinN_e (f : DOp) (i : Nat) (qb : QD) (ρ : List Sl) (P : Sl → List Sl → Prop) : qBinN f i qb ρ P = (qb ρ fun e ρ2 => seeD ρ2[i]? fun d => f d e fun s => P s ρ2) := rfl
theorem qBinM_e (f : DOp) (i : Nat) (qb : QD) (ρ : List Sl) (P : Sl → List Sl → Prop) : qBinM f i qb ρ P = (known ρ i ∧ qBinN f i qb ρ P) := rfl
theorem qTst_e (q : QR) (ρ : List Sl) (P : Bool → List Sl → Prop) : qTst q ρ P = (q ρ fun r ρ' => isB r fun b => P b ρ') := rfl
theorem qTru_e (q : QD) (ρ : List Sl) (P : Bool → List Sl → Prop) : qTru q ρ P = (q ρ fun d ρ' => match d with
  | .bool b => P b ρ'
  | .str x => x.length ≤ sizeLine ∧ P ((x.length : Int) != 0) ρ'
  | .none => P false ρ'
  | .int i => P (i != 0) ρ'
  | .list ds => P (!ds.isEmpty) ρ'
  | .tuple ds => P (!ds.isEmpty) ρ'
  | .dict _ => False) := rfl
theorem qAnd_e (qa qb : QT) (ρ : List Sl) (P : Bool → List Sl → Prop) : qAnd qa qb ρ P = (qa ρ fun b ρ' => if b = true then qb ρ' P else P false ρ') := rfl
theorem qOr_e (qa qb : QT) (ρ : List Sl) (P : Bool → List Sl → Prop) : qOr qa qb ρ P = (qa ρ fun b ρ' => if b = true then P true ρ' else qb ρ' P) := rfl
theorem qNot_e (qa : QT) (ρ : List Sl) (P : Bool → List Sl → Prop) : qNot qa ρ P = (qa ρ fun b ρ' => P (!b) ρ') := rfl
theorem qAndV_e (qa qb : QD) (ρ : List Sl) (P : D → List Sl → Prop) : qAndV qa qb ρ P = (qa ρ fun d ρ' => ∃ c, d = .bool c ∧ if c = true then qb ρ' P else P (.bool false) ρ') := rfl
theorem qOrV_e (qa qb : QD) (ρ : List Sl) (P : D → List Sl → Prop) : qOrV qa qb ρ P = (qa ρ fun d ρ' => ∃ c, d = .bool c ∧ if c = true then P (.bool true) ρ' else qb ρ' P) := rfl
theorem qNotV_e (qa : QD) (ρ : List Sl) (P : D → List Sl → Prop) : qNotV qa ρ P = (qa ρ fun d ρ' => ∃ c, d = .bool c ∧ P (.bool (!c)) ρ') := rfl
theorem qIf_e (qt : QT) (qa qb : QR) (ρ : List Sl) (P : Sl → List Sl → Prop) : qIf qt qa qb ρ P = (qt ρ fun b ρ' => if b = true then qa ρ' P else qb ρ' P) := rfl
theorem qNil_e (ρ : List Sl) (P : List D → List Sl → Prop) : qNil  ρ P = (P [] ρ) := rfl
theorem qCons_e (qa : QD) (qr : QL) (ρ : List Sl) (P : List D → List Sl → Prop) : qCons qa qr ρ P = (qa ρ fun d ρ1 => qr ρ1 fun ds ρ2 => P (d :: ds) ρ2) := rfl
theorem qTup_e (q : QL) (ρ : List Sl) (P : D → List Sl → Prop) : qTup q ρ P = (q ρ fun ds ρ' => P (.tuple ds) ρ') := rfl
theorem qLst_e (q : QL) (ρ : List Sl) (P : Sl → List Sl → Prop) : qLst q ρ P = (q ρ fun ds ρ' => P (.ow ds) ρ') := rfl
theorem qNeg_e (q : QD) (ρ : List Sl) (P : D → List Sl → Prop) : qNeg q ρ P = (q ρ fun d ρ' => ∃ i, d = .int i ∧ P (.int (-i)) ρ') := rfl
theorem qO0_e (ρ : List Sl) (P : Option Int → List Sl → Prop) : qO0  ρ P = (P none ρ) := rfl
theorem qO1_e (q : QD) (ρ : List Sl) (P : Option Int → List Sl → Prop) : qO1 q ρ P = (q ρ fun d ρ' => ∃ i, d = .int i ∧ P (some i) ρ') := rfl
theorem qSl_e (qa : QD) (ql qh : QO) (ρ : List Sl) (P : Sl → List Sl → Prop) : qSl qa ql qh ρ P = (qa ρ fun d ρ1 => ql ρ1 fun lo ρ2 => qh ρ2 fun hi ρ3 => dSl d lo hi fun s => P s ρ3) := rfl
theorem qSlN_e (i : Nat) (ql qh : QO) (ρ : List Sl) (P : Sl → List Sl → Prop) : qSlN i ql qh ρ P = (known ρ i ∧ ql ρ fun lo ρ2 => qh ρ2 fun hi ρ3 => seeD ρ3[i]? fun d => dSl d lo hi fun s => P s ρ3) := rfl
theorem qCl_e (g : DCl) (qa : QL) (ρ : List Sl) (P : Sl → List Sl → Prop) : qCl g qa ρ P = (qa ρ fun ds ρ' => g ds fun s => P s ρ') := rfl
theorem qIsi_e (T : String) (q : QD) (ρ : List Sl) (P : D → List Sl → Prop) : qIsi T q ρ P = (q ρ fun d ρ' => ∃ r, kitB (tyD d) T = some r ∧ P (.bool r) ρ') := rfl
theorem qCall_e (pp : PPr) (qa : QA) (ρ : List Sl) (P : Sl → List Sl → Prop) : qCall pp qa ρ P = (qa ρ fun as ρ' => ∃ gs, resv ρ' as = some gs ∧ pp gs (hold P .mk ρ' as)) := rfl
theorem qaNil_e (ρ : List Sl) (P : List A → List Sl → Prop) : qaNil  ρ P = (P [] ρ) := rfl
theorem qaD_e (qa : QD) (qr : QA) (ρ : List Sl) (P : List A → List Sl → Prop) : qaD qa qr ρ P = (qa ρ fun d ρ1 => qr ρ1 fun as ρ2 => P (.d d :: as) ρ2) := rfl
theorem qaN_e (i : Nat) (qr : QA) (ρ : List Sl) (P : List A → List Sl → Prop) : qaN i qr ρ P = (given ρ i ∧ qr ρ fun as ρ2 => P (.n i :: as) ρ2) := rfl
theorem qApp_e (i : Nat) (qa : QD) (ρ : List Sl) (P : Sl → List Sl → Prop) : qApp i qa ρ P = ((∃ ds, ρ[i]? = some (.ow ds)) ∧ qa ρ fun d ρ' => match ρ'[i]? with
  | some (.ow ds) => ds.length < sizeLine ∧ P (.da .none) (ρ'.set i (.ow (ds ++ [d])))
  | _ => False) := rfl
theorem qExt_e (i : Nat) (qa : QR) (ρ : List Sl) (P : Sl → List Sl → Prop) : qExt i qa ρ P = ((∃ ds, ρ[i]? = some (.ow ds)) ∧ qa ρ fun r ρ' => match r with
  | .ow es => (match ρ'[i]? with
    | some (.ow ds) => ds.length + es.length ≤ sizeLine ∧ P (.da .none) (ρ'.set i (.ow (ds ++ es)))
    | _ => False)
  | _ => False) := rfl
theorem qPop_e (i : Nat) (ρ : List Sl) (P : Sl → List Sl → Prop) : qPop i ρ P = (match ρ[i]? with
  | some (.ow ds) => ∃ d, ds.getLast? = some d ∧ P (.da d) (ρ.set i (.ow ds.dropLast))
  | _ => False) := rfl
theorem qJoin_e (qo qe : QD) (ρ : List Sl) (P : D → List Sl → Prop) : qJoin qo qe ρ P = (qo ρ fun d ρ1 => ∃ a, d = .str a ∧ qe ρ1 fun e ρ2 => ∃ ds ys, rowD e = some ds ∧ strsD ds = some ys ∧ (ys.map (·.length)).sum + ys.length * a.length ≤ 16777216 ∧ P (.str (Txt.join a ys)) ρ2) := rfl
theorem qItD_e (q : QD) (ρ : List Sl) (P : List D → List Sl → Prop) : qItD q ρ P = (q ρ fun d ρ' => ∃ ds, itemsD d = some ds ∧ P ds ρ') := rfl
theorem qRng1_e (q : QL) (ρ : List Sl) (P : List D → List Sl → Prop) : qRng1 q ρ P = (q ρ fun ds ρ' => ∃ j, ds = [.int j] ∧ j < 2 ^ 62 ∧ -(2 ^ 62) ≤ j ∧ P (rangeD 0 j.toNat) ρ') := rfl
theorem qRng2_e (q : QL) (ρ : List Sl) (P : List D → List Sl → Prop) : qRng2 q ρ P = (q ρ fun ds ρ' => ∃ i j, ds = [.int i, .int j] ∧ (-(2 ^ 62) ≤ i ∧ i < 2 ^ 62 ∧ -(2 ^ 62) ≤ j ∧ j < 2 ^ 62) ∧ P (rangeD i (j - i).toNat) ρ') := rfl
theorem qgName_e (i : Nat) (d : D) (ρ : List Sl) (P : List Sl → Prop) : qgName i d ρ P = (P (ρ.set i (.da d))) := rfl
theorem qgNil_e (ds : List D) (ρ : List Sl) (P : List Sl → Prop) : qgNil  ds ρ P = (ds = [] ∧ P ρ) := rfl
theorem qgCons_e (q : QG) (r : QGs) (ds : List D) (ρ : List Sl) (P : List Sl → Prop) : qgCons q r ds ρ P = (match ds with
  | d :: ds => q d ρ fun ρ' => r ds ρ' P
  | [] => False) := rfl
theorem qgTup_e (m : Nat) (r : QGs) (d : D) (ρ : List Sl) (P : List Sl → Prop) : qgTup m r d ρ P = (match d with
  | .tuple ds => ds.length = m ∧ r ds ρ P
  | _ => False) := rfl
theorem qNext_e (E : EndD) (ρ : List Sl) : qNext  E ρ = (E.nx ρ) := rfl
theorem qSeq_e (q r : QS) (E : EndD) (ρ : List Sl) : qSeq q r E ρ = (q (E.thn (r E)) ρ) := rfl
theorem qBrk_e (E : EndD) (ρ : List Sl) : qBrk  E ρ = (E.bk ρ) := rfl
theorem qCnt_e (E : EndD) (ρ : List Sl) : qCnt  E ρ = (E.ct ρ) := rfl
theorem qDrop_e (q : QR) (E : EndD) (ρ : List Sl) : qDrop q E ρ = (q ρ fun _ ρ' => E.nx ρ') := rfl
theorem qRet_e (q : QR) (E : EndD) (ρ : List Sl) : qRet q E ρ = (q ρ fun r ρ' => E.rt r ρ') := rfl
theorem qRetN_e (E : EndD) (ρ : List Sl) : qRetN  E ρ = (E.rt (.da .none) ρ) := rfl
theorem qIfS_e (qc : QT) (q r : QS) (E : EndD) (ρ : List Sl) : qIfS qc q r E ρ = (qc ρ fun b ρ' => if b = true then q E ρ' else r E ρ') := rfl
theorem qSet_e (i : Nat) (q : QR) (E : EndD) (ρ : List Sl) : qSet i q E ρ = (q ρ fun r ρ' => E.nx (ρ'.set i r)) := rfl
theorem qAsg_e (q : QD) (g : QG) (E : EndD) (ρ : List Sl) : qAsg q g E ρ = (q ρ fun d ρ' => g d ρ' E.nx) := rfl
theorem qPar_e (i j : Nat) (q : QL) (E : EndD) (ρ : List Sl) : qPar i j q E ρ = (q ρ fun ds ρ' => match ds with
  | [d, e] => E.nx ((ρ'.set i (.da d)).set j (.da e))
  | _ => False) := rfl
theorem qAugI_e (f : Int → Int → Int) (i : Nat) (q : QD) (E : EndD) (ρ : List Sl) : qAugI f i q E ρ = (∃ x, ρ[i]? = some (.da (.int x)) ∧ q ρ fun d ρ' => ∃ y, d = .int y ∧ E.nx (ρ'.set i (.da (.int (f x y))))) := rfl
theorem qFor_e (qi : QL) (g : QG) (q : QS) (E : EndD) (ρ : List Sl) : qFor qi g q E ρ = (qi ρ fun ds ρ' => loopD g q E ds ρ') := rfl
theorem qWhile_e (qc : QT) (q : QS) (E : EndD) (ρ : List Sl) : qWhile qc q E ρ = (∃ W : Nat → List Sl → Prop, (∃ m, W m ρ) ∧ ∀ m ρ, W m ρ → qc ρ fun b ρ' => if b = true then q { nx := fun ρ => ∃ m', m' < m ∧ W m' ρ, rt := E.rt, bk := E.nx, ct := fun ρ => ∃ m', m' < m ∧ W m' ρ } ρ' else E.nx ρ') := rfl
theorem qYes_e (ρ : List Sl) (P : Bool → List Sl → Prop) : qYes  ρ P = (P true ρ) := rfl
theorem qLc_e (qi : QL) (g : QG) (qt : QT) (q : QD) (vs : List Nat) (ρ : List Sl) (P : Sl → List Sl → Prop) : qLc qi g qt q vs ρ P = (qi ρ fun items ρ1 => clean ρ1 vs ∧ lcD g qt q vs ρ1 (fun acc => P (.ow acc) ρ1) items []) := rfl
theorem qReord_e (idx : List Nat) (m : Nat) (q : QA) (ρ : List Sl) (P : List A → List Sl → Prop) : qReord idx m q ρ P = (q ρ fun as ρ' => as.length = m ∧ P (reord (.d .none) idx as) ρ') := rfl
theorem qPut_e (i : Nat) (qe qi : QD) (E : EndD) (ρ : List Sl) : qPut i qe qi E ρ = (qe ρ fun d ρ1 => isOw ρ1[i]? ∧ qi ρ1 fun k ρ2 => ∃ kk, k = .int kk ∧ putOw ρ2[i]? fun ds => ∃ j, ixN ds.length kk = some j ∧ E.nx (ρ2.set i (.ow (ds.set j d)))) := rfl
theorem qBits_e (q : QD) (ρ : List Sl) (P : D → List Sl → Prop) : qBits q ρ P = (q ρ fun d ρ' => ∃ i, d = .int i ∧ P (.int (Builtin.Int.intBits i)) ρ') := rfl

theorem atI_0 {α : Type} (x : α) (r : List α) : atI (x :: r) 0 = some x := by
  unfold atI ixN
  rw [if_pos (Int.le_refl 0), if_pos (by rw [List.length_cons]; omega)]
  rfl
theorem atI_1 {α : Type} (x y : α) (r : List α) : atI (x :: y :: r) 1 = some y := by
  unfold atI ixN
  rw [if_pos (by omega), if_pos (by rw [List.length_cons, List.length_cons]; omega)]
  rfl
theorem atI_2 {α : Type} (x y z : α) (r : List α) : atI (x :: y :: z :: r) 2 = some z := by
  unfold atI ixN
  rw [if_pos (by omega), if_pos (by rw [List.length_cons, List.length_cons, List.length_cons]; omega)]
  rfl
theorem atI_of {α : Type} {xs : List α} {i : Int} (h0 : 0 ≤ i) (h : i < xs.length) : ∃ x, atI xs i = some x ∧ x ∈ xs ∧ xs[i.toNat]? = some x := by
  unfold atI ixN
  rw [if_pos h0, if_pos h]
  have l : i.toNat < xs.length := by omega
  exact ⟨xs[i.toNat], List.getElem?_eq_getElem l, List.getElem_mem l, List.getElem?_eq_getElem l⟩
theorem ixN_lit {n : Nat} {i : Int} (h0 : 0 ≤ i) (h : i < n) : ixN n i = some i.toNat := by
  unfold ixN
  rw [if_pos h0, if_pos h]
theorem while_of {qc : QT} {q : QS} {E : EndD} {ρ : List Sl} (W : Nat → List Sl → Prop) (m : Nat) (h0 : W m ρ)
    (hs : ∀ m ρ, W m ρ → qc ρ fun b ρ' => if b = true then q { nx := fun ρ => ∃ m', m' < m ∧ W m' ρ, rt := E.rt, bk := E.nx, ct := fun ρ => ∃ m', m' < m ∧ W m' ρ } ρ' else E.nx ρ') : qWhile qc q E ρ := ⟨W, ⟨m, h0⟩, hs⟩
theorem loop_of {g : QG} {q : QS} {E : EndD} (I : List D → List Sl → Prop) (h0 : ∀ ρ, I [] ρ → E.nx ρ)
    (hs : ∀ d ds ρ, I (d :: ds) ρ → (∀ ρ, I ds ρ → loopD g q E ds ρ) → g d ρ fun ρ' => q { nx := loopD g q E ds, rt := E.rt, bk := E.nx, ct := loopD g q E ds } ρ') : ∀ ds ρ, I ds ρ → loopD g q E ds ρ
  | [], ρ, h => h0 ρ h
  | d :: ds, ρ, h => hs d ds ρ h (loop_of I h0 hs ds)
theorem range_of {g : QG} {q : QS} {E : EndD} (I : Int → Nat → List Sl → Prop) (h0 : ∀ lo ρ, I lo 0 ρ → E.nx ρ)
    (hs : ∀ lo n ρ, I lo (n + 1) ρ → (∀ ρ, I (lo + 1) n ρ → loopD g q E (rangeD (lo + 1) n) ρ) → g (.int lo) ρ fun ρ' => q { nx := loopD g q E (rangeD (lo + 1) n), rt := E.rt, bk := E.nx, ct := loopD g q E (rangeD (lo + 1) n) } ρ') : ∀ n lo ρ, I lo n ρ → loopD g q E (rangeD lo n) ρ
  | 0, lo, ρ, h => h0 lo ρ h
  | n + 1, lo, ρ, h => hs lo n ρ h (range_of I h0 hs n (lo + 1))
theorem lc_of {g : QG} {qt : QT} {q : QD} {vs : List Nat} {ρ : List Sl} {F : List D → Prop} (I : List D → List D → Prop) (h0 : ∀ acc, I [] acc → F acc)
    (hs : ∀ d ds acc, I (d :: ds) acc → (∀ acc, I ds acc → lcD g qt q vs ρ F ds acc) → g d (wipeD ρ vs) fun ρ1 => qt ρ1 fun b ρ2 => if b = true then q ρ2 fun x ρ3 => wipeD ρ3 vs = wipeD ρ vs ∧ acc.length < sizeLine ∧ lcD g qt q vs ρ F ds (acc ++ [x]) else wipeD ρ2 vs = wipeD ρ vs ∧ lcD g qt q vs ρ F ds acc) :
    ∀ ds acc, I ds acc → lcD g qt q vs ρ F ds acc
  | [], acc, h => h0 acc h
  | d :: ds, acc, h => hs d ds acc h (lc_of I h0 hs ds)
theorem abs_nat (p : Int) : (if p < 0 then -p else p) = (p.natAbs : Int) := by split <;> omega
theorem kb_bool_bool : kitB "bool" "bool" = some true := by rfl
theorem kb_bool_int : kitB "bool" "int" = some true := by rfl
theorem kb_bool_str : kitB "bool" "str" = some false := by rfl
theorem kb_bool_tuple : kitB "bool" "tuple" = some false := by rfl
theorem kb_bool_list : kitB "bool" "list" = some false := by rfl
theorem kb_int_bool : kitB "int" "bool" = some false := by rfl
theorem kb_int_int : kitB "int" "int" = some true := by rfl
theorem kb_int_str : kitB "int" "str" = some false := by rfl
theorem kb_int_tuple : kitB "int" "tuple" = some false := by rfl
theorem kb_int_list : kitB "int" "list" = some false := by rfl
theorem kb_str_bool : kitB "str" "bool" = some false := by rfl
theorem kb_str_int : kitB "str" "int" = some false := by rfl
theorem kb_str_str : kitB "str" "str" = some true := by rfl
theorem kb_str_tuple : kitB "str" "tuple" = some false := by rfl
theorem kb_str_list : kitB "str" "list" = some false := by rfl
theorem kb_tuple_bool : kitB "tuple" "bool" = some false := by rfl
theorem kb_tuple_int : kitB "tuple" "int" = some false := by rfl
theorem kb_tuple_str : kitB "tuple" "str" = some false := by rfl
theorem kb_tuple_tuple : kitB "tuple" "tuple" = some true := by rfl
theorem kb_tuple_list : kitB "tuple" "list" = some false := by rfl
theorem kb_list_bool : kitB "list" "bool" = some false := by rfl
theorem kb_list_int : kitB "list" "int" = some false := by rfl
theorem kb_list_str : kitB "list" "str" = some false := by rfl
theorem kb_list_tuple : kitB "list" "tuple" = some false := by rfl
theorem kb_list_list : kitB "list" "list" = some true := by rfl
theorem kb_NoneType_bool : kitB "NoneType" "bool" = some false := by rfl
theorem kb_NoneType_int : kitB "NoneType" "int" = some false := by rfl
theorem kb_NoneType_str : kitB "NoneType" "str" = some false := by rfl
theorem kb_NoneType_tuple : kitB "NoneType" "tuple" = some false := by rfl
theorem kb_NoneType_list : kitB "NoneType" "list" = some false := by rfl
theorem loopD_nil (g : QG) (q : QS) (E : EndD) (ρ : List Sl) : loopD g q E [] ρ = E.nx ρ := rfl
theorem loopD_cons (g : QG) (q : QS) (E : EndD) (d : D) (ds : List D) (ρ : List Sl) : loopD g q E (d :: ds) ρ = g d ρ fun ρ' => q { nx := loopD g q E ds, rt := E.rt, bk := E.nx, ct := loopD g q E ds } ρ' := rfl
theorem lcD_nil (g : QG) (qt : QT) (q : QD) (vs : List Nat) (ρ : List Sl) (F : List D → Prop) (acc : List D) : lcD g qt q vs ρ F [] acc = F acc := rfl
theorem lcD_cons (g : QG) (qt : QT) (q : QD) (vs : List Nat) (ρ : List Sl) (F : List D → Prop) (d : D) (ds acc : List D) : lcD g qt q vs ρ F (d :: ds) acc = g d (wipeD ρ vs) fun ρ1 => qt ρ1 fun b ρ2 => if b = true then q ρ2 fun x ρ3 => wipeD ρ3 vs = wipeD ρ vs ∧ acc.length < sizeLine ∧ lcD g qt q vs ρ F ds (acc ++ [x]) else wipeD ρ2 vs = wipeD ρ vs ∧ lcD g qt q vs ρ F ds acc := rfl
theorem ixl_1_0 : ixN 1 0 = some 0 := by rfl
theorem ixl_2_0 : ixN 2 0 = some 0 := by rfl
theorem ixl_2_1 : ixN 2 1 = some 1 := by rfl
theorem ixl_3_0 : ixN 3 0 = some 0 := by rfl
theorem ixl_3_1 : ixN 3 1 = some 1 := by rfl
theorem ixl_3_2 : ixN 3 2 = some 2 := by rfl
theorem ixl_4_0 : ixN 4 0 = some 0 := by rfl
theorem ixl_4_1 : ixN 4 1 = some 1 := by rfl
theorem ixl_4_2 : ixN 4 2 = some 2 := by rfl
theorem ixl_4_3 : ixN 4 3 = some 3 := by rfl
theorem ixl_5_0 : ixN 5 0 = some 0 := by rfl
theorem ixl_5_1 : ixN 5 1 = some 1 := by rfl
theorem ixl_5_2 : ixN 5 2 = some 2 := by rfl
theorem ixl_5_3 : ixN 5 3 = some 3 := by rfl
theorem ixl_5_4 : ixN 5 4 = some 4 := by rfl
theorem ixl_6_0 : ixN 6 0 = some 0 := by rfl
theorem ixl_6_1 : ixN 6 1 = some 1 := by rfl
theorem ixl_6_2 : ixN 6 2 = some 2 := by rfl
theorem ixl_6_3 : ixN 6 3 = some 3 := by rfl
theorem ixl_6_4 : ixN 6 4 = some 4 := by rfl
theorem ixl_6_5 : ixN 6 5 = some 5 := by rfl
end Zd

set_option Elab.async false
set_option linter.all false
set_option maxRecDepth 100000
set_option maxHeartbeats 4000000
namespace Zd
open PySem PySem.Spec PyProof.Rows L2
/-! ### the drawing thing: a list of ints -/
def jarI (good : List Int → Prop) : Jr where
  is := fun as v H => ∃ (j : Addr) (bs : List Int), as = [j] ∧ v = .ref j ∧ H j = some (.lst (bs.map V.int)) ∧ good bs
  loc := fun h ⟨j, bs, e1, e2, e3, e4⟩ => ⟨j, bs, e1, e2, by rw [h j (by rw [e1]; exact List.mem_singleton.mpr rfl)]; exact e3, e4⟩
  dom := fun ⟨j, bs, e1, e2, e3, e4⟩ a ha => by
    rw [e1] at ha
    rw [List.mem_singleton.mp ha, e3]
    intro z
    cases z
/-- no drawing thing; the list at slot i stands at j -/
def jarAt (i : Nat) (j : Addr) : Jr where
  is := fun _ _ _ => False
  loc := fun _ h => h
  dom := fun h => h.elim
  pin := some (i, j)
theorem dqa_ints {K : PySem.W.Frag} {H : Hp} : ∀ (bs : List Int), DqAll K H (bs.map V.int) (bs.map PyData.int)
  | [] => .nil
  | b :: bs => .cons (.int b) (dqa_ints bs)
theorem ints_dqa {K : PySem.W.Frag} {H : Hp} : ∀ (bs : List Int) {xs : List V}, DqAll K H xs (bs.map PyData.int) → xs = bs.map V.int
  | [], _, h => by cases h; rfl
  | b :: bs, _, h => by
    cases h with
    | cons h1 h2 => rw [List.map_cons, dp_int h1, ints_dqa bs h2]
/-- a def of the drawing thing, walked with the thing's cells open -/
theorem openD_ok {P : Program} {w : World} {K : PySem.W.Frag} {mg : Str → Option Value} {base : Heap} {good : List Int → Prop} {x : Str} {st : Stmt} {f : Addr} {fd : FuncData} {N : List Str} {p0 : Str} {ps : List Str} {k : Nat} {pp : PPr} {qs : QS} (F : FnP K x st f fd) (hx : mg x = some (.ref f)) (S : FnScope N (p0 :: ps) (defScope st)) (hB : Binds K fd (p0 :: ps) [])
    (hl : ∀ gs R, pp gs R → ∃ ds : List D, gs = .j :: ds.map .d ∧ ds.length = ps.length)
    (hb : ∀ (J : Jr), (∀ i p, i ≠ 0 → J.pin ≠ some (i, p)) → ∀ (cdv : Value) (A : Around) (outer : List Env) (s : Shared) (H : Hp) (E : XK), Room k (A.deeper (envOfC x (defScope st) s.heap.objs.size f cdv)) →
      PSsd J (cxOf CX0 P w K mg base N x (defScope st) f cdv A outer s H E).nox (defBody st) qs)
    (spec : ∀ (ds : List D) R, pp (.j :: ds.map .d) R → ∀ bs, good bs → qs ⟨fun _ => False, fun r ρ => ∃ d bs', r = .da d ∧ R (.da d) ∧ good bs' ∧ ρ[0]? = some (.ow (bs'.map .int)), fun _ => False, fun _ => False⟩ (.ow (bs.map .int) :: (ds.map .da ++ List.replicate (N.length - ds.length - 1) .un))) : CalD P w K mg base (jarI good) (k + 1) x st (p0 :: ps) pp := by
  refine ⟨f, fd, ?_, hx, F, hB⟩
  refine FunD.ok F S (fun vs H Q E ⟨H0, as, jv, gs, _, _, _, h, R, h2, _⟩ => by
    obtain ⟨ds, rfl, hds⟩ := hl gs R h2
    rw [pair_len h, List.length_cons, List.length_cons, List.length_map, hds]) (fun cdv A outer s H vs Q E hr z => ?_)
  obtain ⟨H0, as, jv, gs, h1, h2, h3, h4, R, h5, h6⟩ := z
  obtain ⟨ds, rfl, hds⟩ := hl gs R h5
  cases h4 with
  | cons hv h4 =>
    rename_i v vs
    obtain ⟨rfl, hne⟩ := hv
    obtain ⟨j, bs, rfl, rfl, hj, hgood⟩ := h2 hne
    obtain ⟨j0, jH⟩ := h3 j (List.mem_singleton.mpr rfl)
    have hlen := pair_len h4
    rw [List.length_map] at hlen
    refine ⟨_, (hb (jarAt 0 j) (fun i p hi e => by cases e; exact hi rfl) cdv A outer s H E hr).nox, ⟨fun a => if a = j then none else H a, H0, [], .non⟩, H0, _, _, ?_, spec ds R h5 bs hgood, fun _ _ _ _ _ _ z => z.elim, ?_, fun _ _ _ _ _ _ z => z.elim, fun _ _ _ _ _ _ z => z.elim⟩
    · refine ⟨?_, h1, fun i s e => ?_, fun i k ds1 es hik e1 e2 => ?_, fun a o _ e => ?_, .refl _, fun a e _ => e, fun z => absurd rfl z, fun a ha => by simp at ha, fun i p hp ds1 e => ?_⟩
      · unfold L2.start
        simp only [List.length_append, List.length_map, List.length_replicate, List.length_cons, hlen]
        omega
      · cases i with
        | zero =>
          cases e
          exact ⟨j, bs.map V.int, rfl, hj, dqa_ints bs, j0, if_pos rfl⟩
        | succ i =>
          rw [List.getElem?_cons_succ] at e
          by_cases q : i < ds.length
          · rw [List.getElem?_append_left (by rw [List.length_map]; exact q), List.getElem?_map] at e
            cases z : ds[i]? with
            | none => rw [z] at e; cases e
            | some d =>
              rw [z] at e
              cases e
              obtain ⟨v, w1, w2⟩ := pair_get h4 (show (ds.map Ag.d)[i]? = some (.d d) by rw [List.getElem?_map, z]; rfl)
              refine ⟨v, ?_, w2⟩
              unfold L2.start
              rw [List.map_cons, List.cons_append, List.getElem?_cons_succ, List.getElem?_append_left (by rw [List.length_map, hlen]; exact q), List.getElem?_map, w1]
              rfl
          · rw [List.getElem?_append_right (by rw [List.length_map]; omega), List.getElem?_replicate] at e
            split at e
            · cases e; trivial
            · cases e
      · have no : ∀ (i : Nat) (es : List D), (Sl.ow (bs.map PyData.int) :: (ds.map Sl.da ++ List.replicate (N.length - ds.length - 1) Sl.un))[i]? = some (.ow es) → i = 0 := fun i es e => by
          cases i with
          | zero => rfl
          | succ i =>
            rw [List.getElem?_cons_succ] at e
            by_cases q : i < ds.length
            · rw [List.getElem?_append_left (by rw [List.length_map]; exact q), List.getElem?_map] at e
              cases z : ds[i]? with
              | none => rw [z] at e; cases e
              | some d => rw [z] at e; cases e
            · rw [List.getElem?_append_right (by rw [List.length_map]; omega), List.getElem?_replicate] at e
              split at e <;> cases e
        exact absurd ((no i _ e1).trans (no k _ e2).symm) hik
      · have e' : (if a = j then none else H a) = some o := e
        by_cases q : a = j
        · rw [if_pos q] at e'; cases e'
        · rw [if_neg q] at e'; exact e'
      · cases hp
        rfl
    · intro v' σ' H' H0' r ρ' R' S' hr' ⟨d, bs', er, hR, hg', e0⟩
      subst er
      obtain ⟨a, xs, g1, g2, g3, g4, g5⟩ := R'.sl 0 _ e0
      have g := R'.pin 0 j rfl _ e0
      rw [g1] at g
      cases g
      have hxs := ints_dqa bs' g3
      subst hxs
      refine h6 (.da d) v' H' hR ⟨H0', R'.sub, fun b o hb e => ?_, R'.base, fun b e1 e2 => ?_, fun _ => ⟨j, bs', rfl, rfl, g2, hg'⟩, hr'⟩
      · have q : b ≠ j := fun z => hb (List.mem_singleton.mpr z)
        exact R'.fr b o (by simp) (by show (if b = j then none else H b) = some o; rw [if_neg q]; exact e)
      · by_cases q : b = j
        · subst q; exact g4
        · exact R'.fresh b e1 (by show (if b = j then none else H b) ≠ none; rw [if_neg q]; exact e2)
/-! ### the law -/
abbrev EndL : EndD := ⟨fun _ => False, fun r _ => r = .da (.bool true), fun _ => False, fun _ => False⟩
def tLw (K : PySem.W.Frag) (J : Jr) (q : QS) : TS := fun D σ H => ∃ (n : En) (H0 : Hp) (ρ : List Sl), Rp K J n σ H H0 ρ ∧ n.as = [] ∧ q EndL ρ ∧ ∀ H', D.rt (.bl true) H'
def qJar (i : Nat) (good : List Int → Prop) (q : QS) : QS := fun E ρ => ∃ bs, good bs ∧ ρ[i]? = some (.ow (bs.map .int)) ∧ q E (ρ.set i .ja)
section
variable {X : Cx} {J : Jr} {st : Stmt} {sts : List Stmt}
theorem law_seq {q r : QS} (h : PSd J X st q) (h2 : PSs X sts (tLw X.K J r)) : PSs X (st :: sts) (tLw X.K J (qSeq q r)) :=
  pss_mono (pss_cons h h2) fun D σ H ⟨n, H0, ρ, R, ha, w, k⟩ => ⟨n, H0, ρ, _, R, w, fun σ' H' H0' ρ' R' _ z => ⟨n, H0', ρ', R', ha, z, k⟩, fun v σ' H' H0' r ρ' R' _ hr (z : r = _) => by
    subst z
    have e := dp_bool hr
    subst e
    exact k H', fun _ _ _ _ _ _ z => z.elim, fun _ _ _ _ _ _ z => z.elim⟩
theorem law_jar {good : List Int → Prop} {i : Nat} {q : QS} (h : PSsd (jarI good) X sts q) : PSs X sts (tLw X.K (jarI good) (qJar i good q)) :=
  pss_mono h fun D σ H ⟨n, H0, ρ, R, ha, ⟨bs, hg, e, w⟩, k⟩ => by
    obtain ⟨j, xs, g1, g2, g3, g4, g5⟩ := R.sl i _ e
    have hxs := ints_dqa bs g3
    subst hxs
    have li : i < ρ.length := (List.getElem?_eq_some_iff.mp e).1
    have old : ∀ {m : Nat} {es : List PyData}, (ρ.set i .ja)[m]? = some (.ow es) → i ≠ m ∧ ρ[m]? = some (.ow es) := fun {m es} z => by
      rw [get_set] at z
      by_cases q : i = m
      · rw [if_pos q] at z
        split at z <;> cases z
      · rw [if_neg q] at z
        exact ⟨q, z⟩
    refine ⟨⟨fun a => if a = j then H j else n.He a, n.H0, [j], .ref j⟩, H0, _, EndL, ?_, w, fun _ _ _ _ _ _ z => z.elim, fun v σ' H' H0' r ρ' R' _ hr (z : r = _) => ?_, fun _ _ _ _ _ _ z => z.elim, fun _ _ _ _ _ _ z => z.elim⟩
    · refine ⟨by rw [List.length_set]; exact R.len, R.sub, fun m s z => ?_, fun a b ds es hab z1 z2 => R.sep a b ds es hab (old z1).2 (old z2).2, fun a o hna z => ?_, R.base, fun a z1 z2 => ?_, fun _ => ⟨j, bs, rfl, rfl, g2, hg⟩, fun a z => ?_, fun _ _ z => by cases z⟩
      · by_cases q : i = m
        · subst q
          rw [get_set, if_pos rfl, if_pos li] at z
          cases z
          exact ⟨g1, by simp⟩
        · have z' : ρ[m]? = some s := by rw [get_set, if_neg q] at z; exact z
          have y := R.sl m s z'
          cases s with
          | un => trivial
          | da d => exact y
          | ow ds =>
            obtain ⟨a, ys, y1, y2, y3, y4, y5⟩ := y
            have na : a ≠ j := fun t => R.sep i m _ ds q e z' (by rw [g1, y1, t])
            exact ⟨a, ys, y1, y2, y3, y4, by show (if a = j then H j else n.He a) = none; rw [if_neg na]; exact y5⟩
          | ja => exact absurd ha y.2
      · have na : a ≠ j := fun t => hna (List.mem_singleton.mpr t)
        have z' : (if a = j then H j else n.He a) = some o := z
        rw [if_neg na] at z'
        exact R.fr a o (by rw [ha]; simp) z'
      · by_cases q : a = j
        · rw [q]; exact g4
        · have z' : (if a = j then H j else n.He a) ≠ none := z2
          rw [if_neg q] at z'
          exact R.fresh a z1 z'
      · have q := List.mem_singleton.mp z
        subst q
        refine ⟨R.base.free g4, ?_⟩
        show (if a = a then H a else n.He a) ≠ none
        rw [if_pos rfl, g2]
        intro t
        cases t
    · subst z
      have e := dp_bool hr
      subst e
      exact k H'
end
/-- what the law's caller gives -/
def spLaw (K : PySem.W.Frag) : Sp := fun vs H Q _ => ∃ (a : Addr) (ns : List Int), vs = [.ref a] ∧ SqL K H a (ns.map V.int) ∧ ns.length ≤ 63 ∧ ∀ H', Q (.bl true) H'
theorem lawD_ok {P : Program} {w : World} {K : PySem.W.Frag} {mg : Str → Option Value} {base : Heap} {J : Jr} {x p0 : Str} {st : Stmt} {f : Addr} {fd : FuncData} {N : List Str} {k : Nat} {qs : QS} (F : FnP K x st f fd) (S : FnScope N [p0] (defScope st)) (hp : ∀ i p, J.pin ≠ some (i, p))
    (hb : ∀ (cdv : Value) (A : Around) (outer : List Env) (s : Shared) (H : Hp) (E : XK), Room k (A.deeper (envOfC x (defScope st) s.heap.objs.size f cdv)) →
      PSs (cxOf CX0 P w K mg base N x (defScope st) f cdv A outer s H E).nox (defBody st) (tLw K J qs))
    (spec : ∀ ns : List Int, ns.length ≤ 63 → qs EndL (.da (.list (ns.map .int)) :: List.replicate (N.length - 1) .un)) : FnOk P w K mg base CX0 (k + 1) f fd [p0] (spLaw K) := by
  refine FunD.ok F S (fun vs H Q E ⟨a, ns, h, _⟩ => by rw [h]; rfl) (fun cdv A outer s H vs Q E hr ⟨a, ns, hv, hS, hl, k⟩ => ?_)
  subst hv
  refine ⟨_, (hb cdv A outer s H E hr).nox, ⟨H, H, [], .non⟩, H, _, ?_, rfl, spec ns hl, k⟩
  refine ⟨by unfold L2.start; simp, .refl _, fun i s e => ?_, fun i j ds es hij e1 e2 => ?_, fun a o _ e => e, .refl _, fun a e _ => e, fun z => absurd rfl z, fun a ha => by simp at ha, fun i p z => absurd z (hp i p)⟩
  · cases i with
    | zero =>
      cases e
      exact ⟨.ref a, rfl, .lst hS (dqa_ints ns)⟩
    | succ i =>
      rw [List.getElem?_cons_succ, List.getElem?_replicate] at e
      split at e
      · cases e; trivial
      · cases e
  · exfalso
    cases i with
    | zero => cases e1
    | succ i =>
      rw [List.getElem?_cons_succ, List.getElem?_replicate] at e1
      split at e1 <;> cases e1
end Zd

/-! The mathematics of closings: undoing modulo, and the four moves. -/
set_option linter.all false
namespace K41
/-- d undoes r modulo n -/
def IsInv (r n d : Int) : Prop := 0 ≤ d ∧ d < n ∧ n ∣ d * r - 1
theorem isInv_one {r n d e : Int} (h : IsInv r n d) (h' : IsInv r n e) : d = e := by
  obtain ⟨h1, h2, c, hc⟩ := h
  obtain ⟨h3, h4, c', hc'⟩ := h'
  have q : d - e = n * (e * c - d * c') := by grind
  have : n ∣ d - e := ⟨_, q⟩
  obtain ⟨m, hm⟩ := this
  have b1 : d - e < n := by omega
  have b2 : -n < d - e := by omega
  rcases Int.lt_trichotomy m 0 with hz | hz | hz
  · have : n * m ≤ n * (-1) := Int.mul_le_mul_of_nonneg_left (by omega) (by omega)
    omega
  · subst hz
    omega
  · have : n * 1 ≤ n * m := Int.mul_le_mul_of_nonneg_left (by omega) (by omega)
    omega
/-- a stage of Euclid's way from n and r -/
def Eu (r n a0 a1 b0 b1 : Int) : Prop := ∃ s x y : Int, (s = 1 ∨ s = -1) ∧ 0 ≤ x ∧ 0 ≤ y ∧ a1 = s * x ∧ b1 = -(s * y) ∧ y * a0 + x * b0 = n ∧ n ∣ a0 - a1 * r ∧ n ∣ b0 - b1 * r ∧ Int.gcd a0 b0 = 1 ∧ 0 ≤ b0 ∧ 0 < a0
theorem Eu.start {r n : Int} (hn : 2 ≤ n) (hr : 0 ≤ r) (hg : Int.gcd r n = 1) : Eu r n n 0 r 1 :=
  ⟨-1, 0, 1, .inr rfl, by omega, by omega, by omega, by omega, by omega, ⟨1, by omega⟩, ⟨0, by omega⟩, by rw [Int.gcd_comm]; exact hg, hr, by omega⟩
theorem gcd_mod {a b : Int} : Int.gcd b (a % b) = Int.gcd a b := by
  have q : a % b = a - b * (a / b) := by
    have := Int.emod_add_mul_ediv a b
    grind
  rw [q, Int.gcd_sub_mul_left_right, Int.gcd_comm]
theorem Eu.step {r n a0 a1 b0 b1 : Int} (h : Eu r n a0 a1 b0 b1) (hb : 0 < b0) : Eu r n b0 b1 (a0 - a0 / b0 * b0) (a1 - a0 / b0 * b1) := by
  obtain ⟨s, x, y, hs, hx, hy, e1, e2, e3, ⟨c, hc⟩, ⟨d, hd⟩, hg, h0, ha⟩ := h
  have hp : 0 ≤ a0 / b0 := Int.ediv_nonneg (by omega) (by omega)
  have hm : a0 - a0 / b0 * b0 = a0 % b0 := by
    have := Int.emod_add_mul_ediv a0 b0
    grind
  refine ⟨-s, y, x + a0 / b0 * y, by omega, hy, Int.add_nonneg hx (Int.mul_nonneg hp hy), by grind, by grind, by grind, ⟨d, hd⟩, ⟨c - a0 / b0 * d, by grind⟩, ?_, ?_, hb⟩
  · rw [hm, gcd_mod]; exact hg
  · rw [hm]; exact Int.emod_nonneg _ (by omega)
/-- the numbers stay small -/
theorem Eu.small {r n a0 a1 b0 b1 : Int} (h : Eu r n a0 a1 b0 b1) : b1.natAbs ≤ n.natAbs ∧ (0 < b0 → a1.natAbs ≤ n.natAbs) ∧ (0 < b0 → a0.natAbs ≤ n.natAbs ∨ b1 = 0) := by
  obtain ⟨s, x, y, hs, hx, hy, e1, e2, e3, _, _, _, h0, ha⟩ := h
  have m1 : y * 1 ≤ y * a0 := Int.mul_le_mul_of_nonneg_left (by omega) hy
  have m2 : 0 ≤ x * b0 := Int.mul_nonneg hx h0
  refine ⟨?_, fun hb => ?_, fun hb => ?_⟩
  · rcases hs with rfl | rfl <;> omega
  · have m3 : x * 1 ≤ x * b0 := Int.mul_le_mul_of_nonneg_left (by omega) hx
    have m4 : 0 ≤ y * a0 := Int.mul_nonneg hy (by omega)
    rcases hs with rfl | rfl <;> omega
  · by_cases z : y = 0
    · right; subst z; omega
    · left
      have m5 : 1 * a0 ≤ y * a0 := Int.mul_le_mul_of_nonneg_right (by omega) (by omega)
      omega
theorem Eu.last {r n a0 a1 b1 : Int} (hn : 2 ≤ n) (h : Eu r n a0 a1 1 b1) : IsInv r n (b1 % n) := by
  obtain ⟨s, x, y, hs, hx, hy, e1, e2, e3, _, ⟨d, hd⟩, hg, h0, ha⟩ := h
  refine ⟨Int.emod_nonneg _ (by omega), Int.emod_lt_of_pos _ (by omega), ?_⟩
  have q := Int.emod_add_mul_ediv b1 n
  exact ⟨-d - b1 / n * r, by grind⟩
theorem Eu.end0 {r n a0 a1 b1 : Int} (hn : 2 ≤ n) (h : Eu r n a0 a1 0 b1) : IsInv r n (a1 % n) := by
  obtain ⟨s, x, y, hs, hx, hy, e1, e2, e3, ⟨d, hd⟩, _, hg, h0, ha⟩ := h
  have ha1 : a0 = 1 := by
    rw [Int.gcd_zero_right] at hg
    omega
  subst ha1
  refine ⟨Int.emod_nonneg _ (by omega), Int.emod_lt_of_pos _ (by omega), ?_⟩
  have q := Int.emod_add_mul_ediv a1 n
  exact ⟨-d - a1 / n * r, by grind⟩
theorem Eu.next_pos {r n a0 a1 b0 b1 : Int} (h : Eu r n a0 a1 b0 b1) (hb : 1 ≤ b0) (h1 : b0 ≠ 1) : 0 < a0 - a0 / b0 * b0 ∧ a0 - a0 / b0 * b0 < b0 := by
  obtain ⟨s, x, y, hs, hx, hy, e1, e2, e3, _, _, hg, h0, ha⟩ := h
  have hm : a0 - a0 / b0 * b0 = a0 % b0 := by
    have := Int.emod_add_mul_ediv a0 b0
    grind
  rw [hm]
  have l := Int.emod_lt_of_pos a0 (show 0 < b0 by omega)
  have g := Int.emod_nonneg a0 (show b0 ≠ 0 by omega)
  refine ⟨?_, l⟩
  rcases Int.lt_or_eq_of_le g with z | z
  · exact z
  · exfalso
    have w := gcd_mod (a := a0) (b := b0)
    rw [← z, Int.gcd_zero_right, hg] at w
    omega
/-- a product halves -/
theorem half {u l : Int} (hl : 0 < l) (hu : l ≤ u) : 2 * (l * (u % l)) < u * l := by
  have a := Int.emod_lt_of_pos u hl
  have b := Int.emod_nonneg u (show l ≠ 0 by omega)
  have c := Int.emod_add_mul_ediv u l
  have d : 1 ≤ u / l := Int.le_ediv_of_mul_le hl (by omega)
  have e : l * 1 ≤ l * (u / l) := Int.mul_le_mul_of_nonneg_left d (by omega)
  have f : 2 * (u % l) < u := by omega
  have g : l * (2 * (u % l)) < l * u := Int.mul_lt_mul_of_pos_left f hl
  grind

/-- what closing tells -/
def Rr (p q : Int) : Int := (if 0 < p then q else -q) % (p.natAbs : Int)
def Clos (p q n k : Int) : Prop := n = p.natAbs ∧ (n < 2 → k = 0) ∧ (2 ≤ n → ∃ d, IsInv (Rr p q) n d ∧ k = if d < Rr p q then d else Rr p q)
theorem clos_one {p q n k n' k' : Int} (h : Clos p q n k) (h' : Clos p q n' k') : n = n' ∧ k = k' := by
  obtain ⟨e, a, b⟩ := h
  obtain ⟨e', a', b'⟩ := h'
  have en : n = n' := e.trans e'.symm
  subst en
  refine ⟨rfl, ?_⟩
  by_cases z : n < 2
  · rw [a z, a' z]
  · obtain ⟨d, h1, h2⟩ := b (by omega)
    obtain ⟨d', h1', h2'⟩ := b' (by omega)
    have := isInv_one h1 h1'
    subst this
    rw [h2, h2']
theorem Rr_ok {p q : Int} (hg : Int.gcd p q = 1) (hp : 2 ≤ (p.natAbs : Int)) : 1 ≤ Rr p q ∧ Rr p q < p.natAbs ∧ Int.gcd (Rr p q) p.natAbs = 1 := by
  have h1 : 0 ≤ Rr p q := Int.emod_nonneg _ (by omega)
  have h2 : Rr p q < p.natAbs := Int.emod_lt_of_pos _ (by omega)
  have h3 : Int.gcd (Rr p q) p.natAbs = 1 := by
    unfold Rr
    rw [Int.gcd_comm, gcd_mod, Int.gcd_comm]
    have e1 : Int.gcd (p.natAbs : Int) (if 0 < p then q else -q) = Int.gcd p q := by
      split
      · exact Int.natAbs_natCast p.natAbs ▸ (by simp [Int.gcd])
      · simp [Int.gcd]
    rw [e1]
    exact hg
  refine ⟨?_, h2, h3⟩
  rcases Int.lt_or_eq_of_le h1 with z | z
  · omega
  · rw [← z, Int.gcd_zero_left] at h3
    have : ((p.natAbs : Int)).natAbs = p.natAbs := Int.natAbs_natCast _
    omega

/-- two numbers without a common divisor -/
abbrev Co (p q : Int) : Prop := Int.gcd p q = 1
theorem co_add {p q : Int} (h : Co p q) : Co (p + q) q := by
  unfold Co
  rw [Int.gcd_add_self_left]
  exact h
theorem co_sub {p q : Int} (h : Co p q) : Co (p - q) q := by
  unfold Co
  rw [Int.gcd_sub_self_left]
  exact h
theorem co_turn {p q : Int} (h : Co p q) : Co (-q) p ∧ Co q (-p) := by
  unfold Co at *
  refine ⟨?_, ?_⟩
  · rw [Int.neg_gcd, Int.gcd_comm]; exact h
  · rw [Int.gcd_neg, Int.gcd_comm]; exact h
/-- a pair in its usual form, the moves, and the way back to (0, 1) -/
def Nm (p q : Int) : Prop := Co p q ∧ 0 ≤ q ∧ (q = 0 → p = 1) ∧ (p = 0 → q = 1)
theorem nm_of {p q : Int} (h : Co p q) (hq : 0 ≤ q) (h0 : q = 0 → 0 < p) : Nm p q := by
  refine ⟨h, hq, fun z => ?_, fun z => ?_⟩
  · subst z
    have := h0 rfl
    unfold Co at h
    rw [Int.gcd_zero_right] at h
    omega
  · subst z
    unfold Co at h
    rw [Int.gcd_zero_left] at h
    omega
def mT (p q : Int) : Int × Int := if p = 0 then (1, 0) else if 0 < p then (-q, p) else (q, -p)
def mA (p q : Int) : Int × Int := if 0 < q then (p + q, q) else (1, 0)
def mB (p q : Int) : Int × Int := if 0 < q then (p - q, q) else (1, 0)
def st (p q : Int) : Int × Int := if q = 0 then (0, 1) else if 0 < p then (-q, p) else if -p ≤ q then (q + p, -p) else (q, -(p + q))
theorem nm_T {p q : Int} (h : Nm p q) : Nm (mT p q).1 (mT p q).2 ∧ ((mT p q).1.natAbs : Int) + (mT p q).2.natAbs ≤ p.natAbs + q.natAbs + 1 - 1 := by
  obtain ⟨hc, h1, h2, h3⟩ := h
  unfold mT
  split
  · rename_i z
    exact ⟨nm_of (by decide) (by decide) (fun _ => by decide), by have := h3 z; subst z; subst this; decide⟩
  · split
    · refine ⟨nm_of (co_turn hc).1 (by show 0 ≤ p; omega) (fun z => by exfalso; revert z; show p = 0 → False; omega), ?_⟩
      show ((-q).natAbs : Int) + (p.natAbs : Int) ≤ _
      omega
    · refine ⟨nm_of (co_turn hc).2 (by show 0 ≤ -p; omega) (fun z => by exfalso; revert z; show -p = 0 → False; omega), ?_⟩
      show (q.natAbs : Int) + ((-p).natAbs : Int) ≤ _
      omega
theorem nm_A {p q : Int} (h : Nm p q) : Nm (mA p q).1 (mA p q).2 ∧ ((mA p q).1.natAbs : Int) + (mA p q).2.natAbs ≤ 2 * (p.natAbs + q.natAbs) := by
  obtain ⟨hc, h1, h2, h3⟩ := h
  unfold mA
  split
  · refine ⟨nm_of (co_add hc) (by show 0 ≤ q; omega) (fun z => by exfalso; revert z; show q = 0 → False; omega), ?_⟩
    show ((p + q).natAbs : Int) + (q.natAbs : Int) ≤ _
    omega
  · refine ⟨nm_of (by decide) (by decide) (fun _ => by decide), ?_⟩
    show (1 : Int) ≤ _
    have : q = 0 := by omega
    have := h2 this
    omega
theorem nm_B {p q : Int} (h : Nm p q) : Nm (mB p q).1 (mB p q).2 ∧ ((mB p q).1.natAbs : Int) + (mB p q).2.natAbs ≤ 2 * (p.natAbs + q.natAbs) := by
  obtain ⟨hc, h1, h2, h3⟩ := h
  unfold mB
  split
  · refine ⟨nm_of (co_sub hc) (by show 0 ≤ q; omega) (fun z => by exfalso; revert z; show q = 0 → False; omega), ?_⟩
    show ((p - q).natAbs : Int) + (q.natAbs : Int) ≤ _
    omega
  · refine ⟨nm_of (by decide) (by decide) (fun _ => by decide), ?_⟩
    show (1 : Int) ≤ _
    have : q = 0 := by omega
    have := h2 this
    omega
/-- at most k steps lead back to (0, 1) -/
def Lk : Nat → Int → Int → Prop
  | 0, p, q => p = 0 ∧ q = 1
  | k + 1, p, q => (p = 0 ∧ q = 1) ∨ Lk k (st p q).1 (st p q).2
theorem lk_zero : ∀ k, Lk k 0 1
  | 0 => ⟨rfl, rfl⟩
  | _ + 1 => .inl ⟨rfl, rfl⟩
theorem lk_up : ∀ {k : Nat} {p q : Int}, Lk k p q → Lk (k + 1) p q
  | 0, _, _, h => .inl h
  | _ + 1, _, _, .inl h => .inl h
  | _ + 1, _, _, .inr h => .inr (lk_up h)
theorem lk_le {k : Nat} {p q : Int} (h : Lk k p q) : ∀ d, Lk (k + d) p q
  | 0 => h
  | d + 1 => lk_up (lk_le h d)
theorem lk_step {k : Nat} {p q p' q' : Int} (e : st p q = (p', q')) (h : Lk k p' q') : Lk (k + 1) p q := .inr (by rw [e]; exact h)
theorem lk_back {k : Nat} {p q p' q' : Int} (hp : p ≠ 0) (e : st p q = (p', q')) (h : Lk k p q) : ∃ j, k = j + 1 ∧ Lk j p' q' := by
  cases k with
  | zero => exact absurd h.1 hp
  | succ j => rcases h with h | h
              · exact absurd h.1 hp
              · exact ⟨j, rfl, by rw [e] at h; exact h⟩
theorem st_q {p : Int} : st p 0 = (0, 1) := rfl
theorem st_a {p q : Int} (h : q ≠ 0) (h1 : 0 < p) : st p q = (-q, p) := by unfold st; rw [if_neg h, if_pos h1]
theorem st_b {p q : Int} (h : q ≠ 0) (h1 : p ≤ 0) (h2 : -p ≤ q) : st p q = (q + p, -p) := by unfold st; rw [if_neg h, if_neg (by omega), if_pos h2]
theorem st_c {p q : Int} (h : q ≠ 0) (h1 : p ≤ 0) (h2 : q < -p) : st p q = (q, -(p + q)) := by unfold st; rw [if_neg h, if_neg (by omega), if_neg (by omega)]
theorem lk_T {k : Nat} {p q : Int} (h : Nm p q) (l : Lk k p q) : Lk (k + 1) (mT p q).1 (mT p q).2 := by
  obtain ⟨hc, h1, h2, h3⟩ := h
  unfold mT
  split
  · exact lk_step st_q (lk_zero _)
  · split
    · by_cases z : q = 0
      · have := h2 z
        subst z
        subst this
        exact lk_zero _
      · obtain ⟨j, rfl, hj⟩ := lk_back (by omega) (st_a z (by omega)) l
        exact lk_up (lk_up hj)
    · have z : q ≠ 0 := fun y => by have := h2 y; omega
      refine lk_step (st_a (by show -p ≠ 0; omega) (by show 0 < q; omega)) ?_
      show Lk k (- -p) q
      rw [Int.neg_neg]
      exact l
theorem lk_W {k : Nat} {p q : Int} (h : Nm p q) (l : Lk k p q) : Lk (k + 1) (mT (mA p q).1 (mA p q).2).1 (mT (mA p q).1 (mA p q).2).2 := by
  obtain ⟨hc, h1, h2, h3⟩ := h
  unfold mA
  by_cases hq : 0 < q
  · rw [if_pos hq]
    show Lk (k + 1) (mT (p + q) q).1 (mT (p + q) q).2
    unfold mT
    split
    · exact lk_step st_q (lk_zero _)
    · split
      · by_cases z : 0 ≤ p
        · refine lk_step (st_b (by show p + q ≠ 0; omega) (by show -q ≤ 0; omega) (by show - -q ≤ p + q; omega)) ?_
          rw [show p + q + -q = p by omega, Int.neg_neg]
          exact l
        · obtain ⟨j, rfl, hj⟩ := lk_back (by omega) (st_b (p := p) (q := q) (by omega) (by omega) (by omega)) l
          refine lk_step (st_c (by show p + q ≠ 0; omega) (by show -q ≤ 0; omega) (by show p + q < - -q; omega)) ?_
          rw [show -(-q + (p + q)) = -p by omega, Int.add_comm p q]
          exact lk_up hj
      · obtain ⟨j, rfl, hj⟩ := lk_back (by omega) (st_c (p := p) (q := q) (by omega) (by omega) (by omega)) l
        exact lk_up (lk_up hj)
  · rw [if_neg hq]
    exact lk_zero _
theorem lk_V {k : Nat} {p q : Int} (h : Nm p q) (l : Lk k p q) : Lk (k + 1) (mB (mT p q).1 (mT p q).2).1 (mB (mT p q).1 (mT p q).2).2 := by
  obtain ⟨hc, h1, h2, h3⟩ := h
  unfold mT
  by_cases hp : p = 0
  · rw [if_pos hp]
    exact lk_step st_q (lk_zero _)
  · rw [if_neg hp]
    by_cases hp2 : 0 < p
    · rw [if_pos hp2]
      unfold mB
      rw [if_pos (show 0 < ((-q, p) : Int × Int).2 from hp2)]
      show Lk (k + 1) (-q - p) p
      by_cases z : q = 0
      · have := h2 z
        subst z
        subst this
        exact lk_step (st_b (by omega) (by omega) (by omega)) (lk_zero _)
      · refine lk_step (st_c (by omega) (by omega) (by omega)) ?_
        rw [show -(-q - p + p) = q by omega]
        exact l
    · rw [if_neg hp2]
      have z : q ≠ 0 := fun y => by have := h2 y; omega
      unfold mB
      rw [if_pos (show 0 < ((q, -p) : Int × Int).2 by show 0 < -p; omega)]
      show Lk (k + 1) (q - -p) (-p)
      by_cases y : -p ≤ q
      · obtain ⟨j, rfl, hj⟩ := lk_back (by omega) (st_b (p := p) (q := q) (by omega) (by omega) (by omega)) l
        rw [show q - -p = q + p by omega]
        exact lk_up (lk_up hj)
      · obtain ⟨j, rfl, hj⟩ := lk_back (by omega) (st_c (p := p) (q := q) (by omega) (by omega) (by omega)) l
        refine lk_step (st_b (by omega) (by omega) (by omega)) ?_
        rw [show -p + (q - -p) = q by omega, show -(q - -p) = -(p + q) by omega]
        exact lk_up hj
end K41

set_option Elab.async false
set_option linter.all false
set_option maxRecDepth 100000
set_option maxHeartbeats 4000000
namespace K41
open PySem PySem.Spec PyProof.Rows L2 Zd
local macro_rules | `(tactic| walk_at "ev") => `(tactic| simp -dsimp (maxSteps := 400000) only [↓hold_app, ↓thn_nx, ↓thn_rt, ↓thn_bk, ↓thn_ct, ↓qRD_e, ↓qDR_e, ↓qLook_e, ↓qVar_e, ↓qMove_e, ↓qC_e, ↓qBin_e, ↓qBinN_e, ↓qBinM_e, ↓qTst_e, ↓qTru_e, ↓qAnd_e, ↓qOr_e, ↓qNot_e, ↓qAndV_e, ↓qOrV_e, ↓qNotV_e, ↓qIf_e,
  ↓qNil_e, ↓qCons_e, ↓qTup_e, ↓qLst_e, ↓qNeg_e, ↓qO0_e, ↓qO1_e, ↓qSl_e, ↓qSlN_e, ↓qCl_e, ↓qIsi_e, ↓qCall_e, ↓qaNil_e, ↓qaD_e, ↓qaN_e, ↓qApp_e, ↓qExt_e, ↓qPop_e, ↓qJoin_e, ↓qItD_e, ↓qRng1_e, ↓qRng2_e, ↓qgName_e, ↓qgNil_e, ↓qgCons_e, ↓qgTup_e, ↓qNext_e, ↓qSeq_e, ↓qBrk_e, ↓qCnt_e, ↓qDrop_e, ↓qRet_e, ↓qRetN_e,
  ↓qIfS_e, ↓qSet_e, ↓qAsg_e, ↓qPar_e, ↓qAugI_e, ↓qFor_e, ↓qYes_e, ↓qLc_e, ↓qReord_e, ↓qPut_e, ↓qBits_e, asD, seeD, frz, known, isB, dAdd, dI, dSub, dMul, dFdiv, dMod, dPow, dC, dLt, dLe, dGt, dGe, dEqB, dEq, dNe, dIs, Zd.isNon, dIn, dIx, dSl, cLen, cAbs, cInt, cMin, cMax, cGcd, cTuple, cList, tyD, given,
  resv, frzs, behind, flatD, rowD, strsD, itemsD, clean, noOw, wipeD, isOw, putOw, startD, slA, ixl_1_0, ixl_2_0, ixl_2_1, ixl_3_0, ixl_3_1, ixl_3_2, ixl_4_0, ixl_4_1, ixl_4_2, ixl_4_3, ixl_5_0, ixl_5_1, ixl_5_2, ixl_5_3, ixl_5_4, ixl_6_0, ixl_6_1, ixl_6_2, ixl_6_3, ixl_6_4, ixl_6_5, reord, List.getD_cons_zero,
  List.getD_cons_succ, kb_bool_bool, kb_bool_int, kb_bool_str, kb_bool_tuple, kb_bool_list, kb_int_bool, kb_int_int, kb_int_str, kb_int_tuple, kb_int_list, kb_str_bool, kb_str_int, kb_str_str, kb_str_tuple, kb_str_list, kb_tuple_bool, kb_tuple_int, kb_tuple_str, kb_tuple_tuple, kb_tuple_list, kb_list_bool,
  kb_list_int, kb_list_str, kb_list_tuple, kb_list_list, kb_NoneType_bool, kb_NoneType_int, kb_NoneType_str, kb_NoneType_tuple, kb_NoneType_list, List.map_cons, List.map_nil, List.length_cons, List.length_nil, Nat.reduceAdd, Nat.reduceSub, List.replicate_succ, List.replicate_zero, List.cons_append, List.nil_append,
  List.getElem?_cons_zero, List.getElem?_cons_succ, List.getElem?_nil, List.set_cons_zero, List.set_cons_succ, Option.map_some, Option.some.injEq, Option.map_none, PyData.int.injEq, PyData.bool.injEq, PyData.str.injEq, PyData.tuple.injEq, PyData.list.injEq, Sl.da.injEq, Sl.ow.injEq, Ag.d.injEq, List.cons.injEq,
  exists_eq_left', exists_eq_left, exists_eq_right, exists_eq_right', exists_and_left, exists_eq, exists_eq', exists_const, and_true, true_and, and_assoc, decide_eq_true_eq, Bool.not_eq_true', decide_eq_false_iff_not, reduceIte, Bool.false_eq_true, Bool.true_eq_false, Bool.not_true, Bool.not_false, reduceCtorEq,
  and_false, false_and, exists_false, decide_true, decide_false, atI_0, atI_1, atI_2, abs_nat, Nat.succ_ne_zero, ne_eq, not_false_eq_true, not_true_eq_false])
local macro_rules | `(tactic| walk_at "un") => `(tactic| simp -dsimp (maxSteps := 400000) only [↓loopD_nil, ↓loopD_cons, ↓lcD_nil, ↓lcD_cons, ↓hold_app, ↓thn_nx, ↓thn_rt, ↓thn_bk, ↓thn_ct, ↓qRD_e, ↓qDR_e, ↓qLook_e, ↓qVar_e, ↓qMove_e, ↓qC_e, ↓qBin_e, ↓qBinN_e, ↓qBinM_e, ↓qTst_e, ↓qTru_e, ↓qAnd_e, ↓qOr_e, ↓qNot_e, ↓qAndV_e, ↓qOrV_e, ↓qNotV_e, ↓qIf_e,
  ↓qNil_e, ↓qCons_e, ↓qTup_e, ↓qLst_e, ↓qNeg_e, ↓qO0_e, ↓qO1_e, ↓qSl_e, ↓qSlN_e, ↓qCl_e, ↓qIsi_e, ↓qCall_e, ↓qaNil_e, ↓qaD_e, ↓qaN_e, ↓qApp_e, ↓qExt_e, ↓qPop_e, ↓qJoin_e, ↓qItD_e, ↓qRng1_e, ↓qRng2_e, ↓qgName_e, ↓qgNil_e, ↓qgCons_e, ↓qgTup_e, ↓qNext_e, ↓qSeq_e, ↓qBrk_e, ↓qCnt_e, ↓qDrop_e, ↓qRet_e, ↓qRetN_e,
  ↓qIfS_e, ↓qSet_e, ↓qAsg_e, ↓qPar_e, ↓qAugI_e, ↓qFor_e, ↓qYes_e, ↓qLc_e, ↓qReord_e, ↓qPut_e, ↓qBits_e, asD, seeD, frz, known, isB, dAdd, dI, dSub, dMul, dFdiv, dMod, dPow, dC, dLt, dLe, dGt, dGe, dEqB, dEq, dNe, dIs, Zd.isNon, dIn, dIx, dSl, cLen, cAbs, cInt, cMin, cMax, cGcd, cTuple, cList, tyD, given,
  resv, frzs, behind, flatD, rowD, strsD, itemsD, clean, noOw, wipeD, isOw, putOw, startD, slA, ixl_1_0, ixl_2_0, ixl_2_1, ixl_3_0, ixl_3_1, ixl_3_2, ixl_4_0, ixl_4_1, ixl_4_2, ixl_4_3, ixl_5_0, ixl_5_1, ixl_5_2, ixl_5_3, ixl_5_4, ixl_6_0, ixl_6_1, ixl_6_2, ixl_6_3, ixl_6_4, ixl_6_5, reord, List.getD_cons_zero,
  List.getD_cons_succ, kb_bool_bool, kb_bool_int, kb_bool_str, kb_bool_tuple, kb_bool_list, kb_int_bool, kb_int_int, kb_int_str, kb_int_tuple, kb_int_list, kb_str_bool, kb_str_int, kb_str_str, kb_str_tuple, kb_str_list, kb_tuple_bool, kb_tuple_int, kb_tuple_str, kb_tuple_tuple, kb_tuple_list, kb_list_bool,
  kb_list_int, kb_list_str, kb_list_tuple, kb_list_list, kb_NoneType_bool, kb_NoneType_int, kb_NoneType_str, kb_NoneType_tuple, kb_NoneType_list, List.map_cons, List.map_nil, List.length_cons, List.length_nil, Nat.reduceAdd, Nat.reduceSub, List.replicate_succ, List.replicate_zero, List.cons_append, List.nil_append,
  List.getElem?_cons_zero, List.getElem?_cons_succ, List.getElem?_nil, List.set_cons_zero, List.set_cons_succ, Option.map_some, Option.some.injEq, Option.map_none, PyData.int.injEq, PyData.bool.injEq, PyData.str.injEq, PyData.tuple.injEq, PyData.list.injEq, Sl.da.injEq, Sl.ow.injEq, Ag.d.injEq, List.cons.injEq,
  exists_eq_left', exists_eq_left, exists_eq_right, exists_eq_right', exists_and_left, exists_eq, exists_eq', exists_const, and_true, true_and, and_assoc, decide_eq_true_eq, Bool.not_eq_true', decide_eq_false_iff_not, reduceIte, Bool.false_eq_true, Bool.true_eq_false, Bool.not_true, Bool.not_false, reduceCtorEq,
  and_false, false_and, exists_false, decide_true, decide_false, atI_0, atI_1, atI_2, abs_nat, Nat.succ_ne_zero, ne_eq, not_false_eq_true, not_true_eq_false])
abbrev B200 : Int := 2 ^ 200
def pp_undone_modulo : PPr := fun gs R => ∃ r n, gs = [.d (.int r), .d (.int n)] ∧ 2 ≤ n ∧ n < B200 ∧ 1 ≤ r ∧ r < n ∧ Int.gcd r n = 1 ∧ ∀ d, IsInv r n d → R (.da (.int d))
def pp_closing : PPr := fun gs R => ∃ p q, gs = [.d (.tuple [.int p, .int q])] ∧ Co p q ∧ (p.natAbs : Int) < B200 ∧ ∀ n k, Clos p q n k → R (.da (.tuple [.int n, .int k]))
def pp_closing_ropes : PPr := fun gs R => ∃ p q, gs = [.d (.tuple [.int p, .int q])] ∧ R (.da (.int (if p % 2 = 0 then 2 else 1)))
def pp_same_closing : PPr := fun gs R => ∃ p q p' q', gs = [.d (.tuple [.int p, .int q]), .d (.tuple [.int p', .int q'])] ∧ Co p q ∧ (p.natAbs : Int) < B200 ∧ Co p' q' ∧ (p'.natAbs : Int) < B200 ∧ ∀ n k n' k', Clos p q n k → Clos p' q' n' k' → R (.da (.bool (decide (n = n' ∧ k = k'))))
/-- what the drawing thing always holds -/
def good (bs : List Int) : Prop := ∃ b0 b1 b2, bs = [b0, b1, b2] ∧ 0 ≤ b0 ∧ 0 ≤ b1 ∧ b1 < 4294967291 ∧ 0 ≤ b2
def pp__law_bag : PPr := fun gs R => ∃ ns : List Int, gs = [.d (.list (ns.map .int))] ∧ ns.length ≤ 63 ∧ ∀ b0 b1 b2, good [b0, b1, b2] → R (.ow [.int b0, .int b1, .int b2])
def pp__law_draw : PPr := fun gs R => ∃ many, gs = [.j, .d (.int many)] ∧ 1 ≤ many ∧ many < B200 ∧ ∀ r, 0 ≤ r → r < many → R (.da (.int r))
def pp__law_pick : PPr := fun gs R => ∃ ds, (gs = [.j, .d (.list ds)] ∨ gs = [.j, .d (.tuple ds)]) ∧ ds ≠ [] ∧ ds.length < 1000 ∧ ∀ x ∈ ds, R (.da x)
def pr2 (x : Int × Int) : Sl := .da (.tuple [.int x.1, .int x.2])
def pp__law_move : PPr := fun gs R => ∃ p q, (gs = [.d (.tuple [.int p, .int q]), .d (.str (Str.ofString "twist"))] ∧ R (pr2 (mA p q))) ∨ (gs = [.d (.tuple [.int p, .int q]), .d (.str (Str.ofString "back"))] ∧ R (pr2 (mB p q))) ∨ (gs = [.d (.tuple [.int p, .int q]), .d (.str (Str.ofString "turn"))] ∧ R (pr2 (mT p q)))
def pp__law_letter : PPr := fun gs R => ∃ p q m s k, gs = [.d (.tuple [.int p, .int q]), .d (.str m)] ∧ Nm p q ∧ Lk k p q ∧ (p.natAbs : Int) + q.natAbs ≤ s ∧ ∀ p' q', Nm p' q' → Lk (k + 1) p' q' → (p'.natAbs : Int) + q'.natAbs ≤ 4 * s → R (.da (.tuple [.int p', .int q']))
def pp__law_lead : PPr := fun gs R => ∃ w, gs = [.d (.tuple [.int 0, .int 1]), .d (.str w)] ∧ w.length ≤ 60 ∧ ∀ p' q', Co p' q' → Lk 60 p' q' → (p'.natAbs : Int) + q'.natAbs ≤ 2 ^ 120 → R (.da (.tuple [.int p', .int q']))
def pp__law_word : PPr := fun gs R => ∃ least most, gs = [.j, .d (.int least), .d (.int most)] ∧ 0 ≤ least ∧ least ≤ most ∧ most ≤ 60 ∧ ∀ w : Str, w.length ≤ 60 → R (.da (.str w))
def pp__law_letters : PPr := fun gs R => ∃ p q, gs = [.d (.tuple [.int p, .int q]), .d (.int 60)] ∧ ∀ c, (Lk 60 p q → c ≤ 60) → R (.da (.int c))
def pp__law_inverse : PPr := pp_undone_modulo
def pp__law_closing : PPr := pp_closing
def pp__law_divisor : PPr := fun gs R => ∃ a b, gs = [.d (.int a), .d (.int b)] ∧ 0 < a ∧ a < B200 ∧ 0 ≤ b ∧ b < B200 ∧ R (.da (.int (Int.gcd a b)))
/-- a pair that may be closed -/
def Pr (d : D) : Prop := ∃ p q, d = .tuple [.int p, .int q] ∧ Co p q ∧ (p.natAbs : Int) < B200
/-- a pair with a short way back, where its number is big -/
def Near (p q : Int) : Prop := Co p q ∧ (p.natAbs : Int) ≤ 2 ^ 120 ∧ (10000 < (p.natAbs : Int) → Lk 60 p q)
def pp__law_partners : PPr := fun gs R => ∃ p q, gs = [.j, .d (.tuple [.int p, .int q])] ∧ Near p q ∧ ∀ ds, (∀ d ∈ ds, Pr d) → (10000 < (p.natAbs : Int) → ds ≠ []) → ds.length < 1000 → R (.ow ds)
def Plain (d : D) : Prop := (∃ b, d = .bool b) ∨ (∃ i, d = .int i) ∨ ∃ i j, d = .tuple [.int i, .int j]
def pp__law_same : PPr := fun gs R => ∃ d, gs = [.d d, .d d] ∧ Plain d ∧ R (.da (.bool true))
def pp__law_holds : PPr := fun gs R => ∃ p q, gs = [.j, .d (.tuple [.int p, .int q])] ∧ Near p q ∧ R (.da (.bool true))
abbrev Ends0 (R : Sl → Prop) : EndD := ⟨fun _ => R (.da .none), fun r _ => R r, fun _ => False, fun _ => False⟩
theorem lt200 {a b : Int} (h : a < B200) (h0 : 0 ≤ a) (hb : b.natAbs ≤ a.natAbs) : b.natAbs < 2 ^ 200 := by
  have e : ((2 ^ 200 : Nat) : Int) = B200 := by decide
  omega
theorem mulW {a b : Int} (ha : a.natAbs < 2 ^ 400) (hb : b.natAbs < 2 ^ 400) : CMulA a b := .inr <| wide_mul ha hb (by omega) (by omega) (by omega)
theorem divW {a b : Int} (h0 : 0 < b) (hb : b.natAbs < 2 ^ 400) : CDivW a b := wide_div h0 hb (by omega) (by omega)
theorem n400 {a : Int} (h : a.natAbs < 2 ^ 200) : a.natAbs < 2 ^ 400 := Nat.lt_trans h (by decide)
theorem bigB : (100000 : Int) < B200 := by decide
theorem app_len (a b : Str) : (a ++ b).length = a.length + b.length := by simp [Str.length, show (a ++ b).cps = a.cps ++ b.cps from rfl]
theorem sz200 {n : Nat} (h : n ≤ 200) : n ≤ sizeLine := Nat.le_trans h (by decide)
theorem mulS {a b : Int} (ha : a.natAbs < 2 ^ 200) (hb : b.natAbs < 2 ^ 200) : CMulA a b := mulW (n400 ha) (n400 hb)
theorem szl {w z : Str} (h : w.length ≤ 100) (hz : z.length = 1) : w.length + z.length ≤ sizeLine := sz200 (by omega)
def q_undone_modulo : QS := (qSeq (qPar 2 3 (qCons (qTup (qCons (qVar 1) (qCons (qC (.int 0)) qNil))) (qCons (qTup (qCons (qVar 0) (qCons (qC (.int 1)) qNil))) qNil)))
    (qSeq (qWhile (qTst (qBin dNe (qDR (qBinM dIx 3 (qC (.int 0)))) (qC (.int 1)))) (qSeq (qSet 4 (qBin dFdiv (qDR (qBinM dIx 2 (qC (.int 0)))) (qDR (qBinM dIx 3 (qC (.int 0))))))
    (qSeq (qPar 2 3 (qCons (qVar 3) (qCons (qTup (qCons (qDR (qBin dSub (qDR (qBinM dIx 2 (qC (.int 0)))) (qDR (qBinM dMul 4 (qDR (qBinM dIx 3 (qC (.int 0)))))))) (qCons (qDR (qBin dSub (qDR (qBinM dIx 2 (qC (.int 1)))) (qDR (qBinM dMul 4 (qDR (qBinM dIx 3 (qC (.int 1)))))))) qNil))) qNil)))
    qNext)))
    (qSeq (qRet (qBin dMod (qDR (qBinM dIx 3 (qC (.int 1)))) (qLook 1)))
    qNext)))
def q_closing : QS := (qSeq (qAsg (qVar 0) (qgTup 2 (qgCons (qgName 1) (qgCons (qgName 2) qgNil))))
    (qSeq (qSet 3 (qCl cAbs (qCons (qLook 1) qNil)))
    (qSeq (qIfS (qTst (qBinM dLt 3 (qC (.int 2)))) (qSeq (qRet (qRD (qTup (qCons (qVar 3) (qCons (qC (.int 0)) qNil)))))
    qNext) qNext)
    (qSeq (qSet 4 (qBin dMod (qDR (qIf (qTst (qBinM dGt 1 (qC (.int 0)))) (qMove 2) (qRD (qNeg (qVar 2))))) (qLook 3)))
    (qSeq (qRet (qRD (qTup (qCons (qVar 3) (qCons (qDR (qCl cMin (qCons (qVar 4) (qCons (qDR (qCall pp_undone_modulo (qaN 4 (qaN 3 qaNil)))) qNil)))) qNil)))))
    qNext)))))
def q_closing_ropes : QS := (qSeq (qRet (qIf (qTst (qBin dEq (qDR (qBin dMod (qDR (qBinM dIx 0 (qC (.int 0)))) (qC (.int 2)))) (qC (.int 0)))) (qRD (qC (.int 2))) (qRD (qC (.int 1)))))
    qNext)
def q_same_closing : QS := (qSeq (qRet (qBin dEq (qDR (qCall pp_closing (qaN 0 qaNil))) (qDR (qCall pp_closing (qaN 1 qaNil)))))
    qNext)
def q__law_bag : QS := (qSeq (qSet 1 (qBin dPow (qC (.int 10)) (qC (.int 60))))
    (qSeq (qFor (qRng1 (qCons (qC (.int 4)) qNil)) (qgName 2) (qSeq (qSet 1 (qBinM dMul 1 (qLook 1)))
    qNext))
    (qSeq (qSet 3 (qLst (qCons (qC (.int 0)) (qCons (qDR (qBin dAdd (qC (.int 90001)) (qDR (qBin dMul (qC (.int 17)) (qDR (qCl cLen (qCons (qLook 0) qNil))))))) (qCons (qC (.int 0)) qNil)))))
    (qSeq (qFor (qItD (qVar 0)) (qgName 4) (qSeq (qSet 5 (qCl cInt (qCons (qLook 4) qNil)))
    (qSeq (qIfS (qAnd (qTst (qBin dEq (qDR (qBinM dIx 3 (qC (.int 0)))) (qC (.int 0)))) (qTst (qBinM dGe 5 (qDR (qBin dPow (qC (.int 10)) (qC (.int 18))))))) (qSeq (qPut 3 (qDR (qBin dMod (qDR (qCl cInt (qCons (qLook 5) qNil))) (qLook 1))) (qC (.int 0)))
    qNext) qNext)
    (qSeq (qSet 6 (qBin dMod (qDR (qCl cInt (qCons (qLook 5) qNil))) (qC (.int 4294967291))))
    (qSeq (qPut 3 (qDR (qBin dMod (qDR (qCl cInt (qCons (qDR (qBin dAdd (qDR (qBin dAdd (qDR (qBin dMul (qDR (qBinM dIx 3 (qC (.int 1)))) (qDR (qBin dAdd (qDR (qBin dAdd (qDR (qBinM dIx 3 (qC (.int 1)))) (qDR (qBin dMul (qC (.int 2)) (qLook 6))))) (qC (.int 1)))))) (qDR (qBin dMul (qC (.int 3)) (qLook 6))))) (qC (.int 7)))) qNil))) (qC (.int 4294967291)))) (qC (.int 1)))
    qNext)))))
    (qSeq (qRet (qMove 3))
    qNext)))))
def q__law_draw : QS := (qSeq (qPut 0 (qDR (qBin dAdd (qDR (qBinM dIx 0 (qC (.int 2)))) (qC (.int 1)))) (qC (.int 2)))
    (qSeq (qIfS (qTst (qBin dGt (qDR (qBinM dIx 0 (qC (.int 0)))) (qC (.int 0)))) (qSeq (qSet 2 (qBin dMod (qDR (qCl cInt (qCons (qDR (qBinM dIx 0 (qC (.int 0)))) qNil))) (qLook 1)))
    (qSeq (qPut 0 (qDR (qBin dFdiv (qDR (qBinM dIx 0 (qC (.int 0)))) (qLook 1))) (qC (.int 0)))
    (qSeq (qRet (qMove 2))
    qNext))) qNext)
    (qSeq (qPut 0 (qDR (qBin dMod (qDR (qCl cInt (qCons (qDR (qBin dAdd (qDR (qBin dAdd (qDR (qBin dMul (qDR (qBinM dIx 0 (qC (.int 1)))) (qC (.int 75577)))) (qDR (qBin dMul (qC (.int 613)) (qDR (qBinM dIx 0 (qC (.int 2)))))))) (qC (.int 19)))) qNil))) (qC (.int 4294967291)))) (qC (.int 1)))
    (qSeq (qSet 3 (qBin dMod (qDR (qCl cInt (qCons (qDR (qBin dAdd (qDR (qBin dMul (qDR (qBinM dIx 0 (qC (.int 1)))) (qDR (qBin dAdd (qDR (qBin dFdiv (qDR (qBinM dIx 0 (qC (.int 1)))) (qC (.int 11)))) (qC (.int 7907)))))) (qDR (qBinM dIx 0 (qC (.int 2)))))) qNil))) (qC (.int 4294967279))))
    (qSeq (qRet (qBin dMod (qDR (qCl cInt (qCons (qDR (qBinM dFdiv 3 (qC (.int 17)))) qNil))) (qLook 1)))
    qNext)))))
def q__law_pick : QS := (qSeq (qRet (qBinM dIx 1 (qDR (qCall pp__law_draw (qaN 0 (qaD (qDR (qCl cLen (qCons (qLook 1) qNil))) qaNil))))))
    qNext)
def q__law_move : QS := (qSeq (qAsg (qVar 0) (qgTup 2 (qgCons (qgName 2) (qgCons (qgName 3) qgNil))))
    (qSeq (qIfS (qTst (qBinM dEq 1 (qC (.str "twist")))) (qSeq (qRet (qIf (qTst (qBinM dGt 3 (qC (.int 0)))) (qRD (qTup (qCons (qDR (qBinM dAdd 2 (qLook 3))) (qCons (qVar 3) qNil)))) (qRD (qTup (qCons (qC (.int 1)) (qCons (qC (.int 0)) qNil))))))
    qNext) qNext)
    (qSeq (qIfS (qTst (qBinM dEq 1 (qC (.str "back")))) (qSeq (qRet (qIf (qTst (qBinM dGt 3 (qC (.int 0)))) (qRD (qTup (qCons (qDR (qBinM dSub 2 (qLook 3))) (qCons (qVar 3) qNil)))) (qRD (qTup (qCons (qC (.int 1)) (qCons (qC (.int 0)) qNil))))))
    qNext) qNext)
    (qSeq (qIfS (qTst (qBinM dEq 2 (qC (.int 0)))) (qSeq (qRet (qRD (qTup (qCons (qC (.int 1)) (qCons (qC (.int 0)) qNil)))))
    qNext) qNext)
    (qSeq (qRet (qIf (qTst (qBinM dGt 2 (qC (.int 0)))) (qRD (qTup (qCons (qNeg (qVar 3)) (qCons (qVar 2) qNil)))) (qRD (qTup (qCons (qVar 3) (qCons (qNeg (qVar 2)) qNil))))))
    qNext)))))
def q__law_letter : QS := (qSeq (qIfS (qTst (qBinM dEq 1 (qC (.str "s")))) (qSeq (qRet (qCall pp__law_move (qaN 0 (qaD (qC (.str "turn")) qaNil))))
    qNext) qNext)
    (qSeq (qIfS (qTst (qBinM dEq 1 (qC (.str "w")))) (qSeq (qRet (qCall pp__law_move (qaD (qDR (qCall pp__law_move (qaN 0 (qaD (qC (.str "twist")) qaNil)))) (qaD (qC (.str "turn")) qaNil))))
    qNext) qNext)
    (qSeq (qRet (qCall pp__law_move (qaD (qDR (qCall pp__law_move (qaN 0 (qaD (qC (.str "turn")) qaNil)))) (qaD (qC (.str "back")) qaNil))))
    qNext)))
def q__law_lead : QS := (qSeq (qFor (qItD (qVar 1)) (qgName 2) (qSeq (qSet 0 (qCall pp__law_letter (qaN 0 (qaN 2 qaNil))))
    qNext))
    (qSeq (qRet (qMove 0))
    qNext))
def q__law_word : QS := (qSeq (qSet 3 (qBinM dAdd 1 (qDR (qCall pp__law_draw (qaN 0 (qaD (qDR (qBin dAdd (qDR (qBinM dSub 2 (qLook 1))) (qC (.int 1)))) qaNil))))))
    (qSeq (qIfS (qTst (qBinM dEq 3 (qC (.int 1)))) (qSeq (qRet (qCall pp__law_pick (qaN 0 (qaD (qTup (qCons (qC (.str "s")) (qCons (qC (.str "w")) qNil))) qaNil))))
    qNext) qNext)
    (qSeq (qSet 4 (qIf (qTst (qBinM dGt 3 (qC (.int 0)))) (qRD (qC (.str "w"))) (qRD (qC (.str "")))))
    (qSeq (qSet 5 (qCall pp__law_draw (qaN 0 (qaD (qC (.int 4)) qaNil))))
    (qSeq (qFor (qRng2 (qCons (qC (.int 1)) (qCons (qVar 3) qNil))) (qgName 6) (qSeq (qIfS (qTst (qBin dEq (qDR (qBinM dSub 6 (qDR (qBin dMul (qDR (qBinM dFdiv 6 (qC (.int 2)))) (qC (.int 2)))))) (qC (.int 1)))) (qSeq (qSet 4 (qBinM dAdd 4 (qC (.str "s"))))
    qNext) (qSeq (qIfS (qTst (qBinM dEq 5 (qC (.int 0)))) (qSeq (qSet 4 (qBinM dAdd 4 (qC (.str "w"))))
    qNext) (qSeq (qIfS (qTst (qBinM dEq 5 (qC (.int 1)))) (qSeq (qSet 4 (qBinM dAdd 4 (qDR (qBin dIx (qC (.str "wv")) (qDR (qBin dSub (qDR (qBinM dFdiv 6 (qC (.int 2)))) (qDR (qBin dMul (qDR (qBinM dFdiv 6 (qC (.int 4)))) (qC (.int 2))))))))))
    qNext) (qSeq (qSet 4 (qBinM dAdd 4 (qDR (qCall pp__law_pick (qaN 0 (qaD (qTup (qCons (qC (.str "v")) (qCons (qC (.str "w")) qNil))) qaNil))))))
    qNext))
    qNext))
    qNext))
    qNext))
    (qSeq (qRet (qMove 4))
    qNext))))))
def q__law_letters : QS := (qSeq (qSet 2 (qRD (qC (.int 0))))
    (qSeq (qFor (qRng1 (qCons (qDR (qBinM dAdd 1 (qC (.int 1)))) qNil)) (qgName 3) (qSeq (qAsg (qVar 0) (qgTup 2 (qgCons (qgName 4) (qgCons (qgName 5) qgNil))))
    (qSeq (qIfS (qTst (qBinM dEq 0 (qTup (qCons (qC (.int 0)) (qCons (qC (.int 1)) qNil))))) (qSeq (qRet (qMove 2))
    qNext) qNext)
    (qSeq (qSet 2 (qBinM dAdd 2 (qC (.int 1))))
    (qSeq (qIfS (qTst (qBinM dEq 5 (qC (.int 0)))) (qSeq (qSet 0 (qRD (qTup (qCons (qC (.int 0)) (qCons (qC (.int 1)) qNil)))))
    qNext) (qSeq (qIfS (qTst (qBinM dGt 4 (qC (.int 0)))) (qSeq (qSet 0 (qRD (qTup (qCons (qNeg (qVar 5)) (qCons (qVar 4) qNil)))))
    qNext) (qSeq (qIfS (qTst (qBin dLe (qNeg (qVar 4)) (qLook 5))) (qSeq (qSet 0 (qRD (qTup (qCons (qDR (qBinM dAdd 5 (qLook 4))) (qCons (qNeg (qVar 4)) qNil)))))
    qNext) (qSeq (qSet 0 (qRD (qTup (qCons (qVar 5) (qCons (qNeg (qDR (qBinM dAdd 4 (qLook 5)))) qNil)))))
    qNext))
    qNext))
    qNext))
    qNext)))))
    (qSeq (qRet (qBinM dAdd 1 (qC (.int 1))))
    qNext)))
def q__law_inverse : QS := (qSeq (qSet 2 (qMove 1))
    (qSeq (qSet 3 (qBin dMod (qDR (qCl cInt (qCons (qLook 0) qNil))) (qLook 1)))
    (qSeq (qSet 4 (qRD (qC (.int 0))))
    (qSeq (qSet 5 (qRD (qC (.int 1))))
    (qSeq (qFor (qRng1 (qCons (qDR (qBin dAdd (qDR (qBin dMul (qC (.int 2)) (qBits (qVar 1)))) (qC (.int 4)))) qNil)) (qgName 6) (qSeq (qIfS (qTst (qBinM dEq 3 (qC (.int 0)))) (qSeq qBrk
    qNext) qNext)
    (qSeq (qSet 7 (qBinM dFdiv 2 (qLook 3)))
    (qSeq (qSet 8 (qBinM dSub 2 (qDR (qBinM dMul 7 (qLook 3)))))
    (qSeq (qSet 2 (qMove 3))
    (qSeq (qSet 3 (qMove 8))
    (qSeq (qSet 9 (qBinM dSub 4 (qDR (qBinM dMul 7 (qLook 5)))))
    (qSeq (qSet 4 (qMove 5))
    (qSeq (qSet 5 (qMove 9))
    qNext)))))))))
    (qSeq (qRet (qBin dMod (qDR (qCl cInt (qCons (qLook 4) qNil))) (qLook 1)))
    qNext))))))
def q__law_closing : QS := (qSeq (qSet 1 (qCl cAbs (qCons (qDR (qBinM dIx 0 (qC (.int 0)))) qNil)))
    (qSeq (qIfS (qTst (qBinM dLt 1 (qC (.int 2)))) (qSeq (qRet (qRD (qTup (qCons (qVar 1) (qCons (qC (.int 0)) qNil)))))
    qNext) qNext)
    (qSeq (qSet 2 (qBin dMod (qDR (qCl cInt (qCons (qDR (qIf (qTst (qBin dGt (qDR (qBinM dIx 0 (qC (.int 0)))) (qC (.int 0)))) (qBinM dIx 0 (qC (.int 1))) (qRD (qNeg (qDR (qBinM dIx 0 (qC (.int 1)))))))) qNil))) (qLook 1)))
    (qSeq (qRet (qRD (qTup (qCons (qVar 1) (qCons (qDR (qCl cMin (qCons (qVar 2) (qCons (qDR (qCall pp__law_inverse (qaN 2 (qaN 1 qaNil)))) qNil)))) qNil)))))
    qNext))))
def q__law_divisor : QS := (qSeq (qFor (qRng1 (qCons (qDR (qBin dAdd (qDR (qBin dMul (qC (.int 2)) (qBits (qDR (qCl cMax (qCons (qVar 0) (qCons (qLook 1) qNil))))))) (qC (.int 4)))) qNil)) (qgName 2) (qSeq (qIfS (qTst (qBinM dEq 1 (qC (.int 0)))) (qSeq qBrk
    qNext) qNext)
    (qSeq (qSet 3 (qBin dMod (qDR (qCl cInt (qCons (qLook 0) qNil))) (qLook 1)))
    (qSeq (qSet 0 (qMove 1))
    (qSeq (qSet 1 (qMove 3))
    qNext)))))
    (qSeq (qRet (qMove 0))
    qNext))
def q__law_partners : QS := (qSeq (qSet 2 (qCl cAbs (qCons (qDR (qBinM dIx 1 (qC (.int 0)))) qNil)))
    (qSeq (qSet 3 (qLst (qCons (qVar 1) qNil)))
    (qSeq (qIfS (qTst (qBinM dGt 2 (qC (.int 1)))) (qSeq (qSet 4 (qBin dMod (qDR (qCl cInt (qCons (qDR (qIf (qTst (qBin dGt (qDR (qBinM dIx 1 (qC (.int 0)))) (qC (.int 0)))) (qBinM dIx 1 (qC (.int 1))) (qRD (qNeg (qDR (qBinM dIx 1 (qC (.int 1)))))))) qNil))) (qLook 2)))
    (qSeq (qSet 5 (qCall pp__law_inverse (qaN 4 (qaN 2 qaNil))))
    (qSeq (qSet 6 (qBin dAdd (qC (.int 1)) (qDR (qCall pp__law_draw (qaN 0 (qaD (qDR (qBinM dSub 2 (qC (.int 1)))) qaNil))))))
    (qSeq (qDrop (qExt 3 (qLst (qCons (qTup (qCons (qVar 2) (qCons (qVar 4) qNil))) (qCons (qTup (qCons (qVar 2) (qCons (qVar 5) qNil))) (qCons (qTup (qCons (qNeg (qVar 2)) (qCons (qDR (qBinM dSub 2 (qLook 4))) qNil))) (qCons (qTup (qCons (qNeg (qVar 2)) (qCons (qDR (qBinM dSub 2 (qLook 5))) qNil))) (qCons (qTup (qCons (qVar 2) (qCons (qDR (qBinM dAdd 4 (qLook 2))) qNil))) (qCons (qTup (qCons (qNeg (qVar 2)) (qCons (qDR (qBin dSub (qDR (qBin dMul (qC (.int 2)) (qLook 2))) (qLook 5))) qNil))) (qCons (qTup (qCons (qVar 2) (qCons (qDR (qBinM dSub 2 (qLook 4))) qNil))) (qCons (qTup (qCons (qNeg (qVar 2)) (qCons (qVar 4) qNil))) qNil)))))))))))
    (qSeq (qDrop (qExt 3 (qLc (qItD (qTup (qCons (qVar 6) (qCons (qDR (qBinM dAdd 2 (qLook 6))) (qCons (qDR (qBinM dSub 2 (qC (.int 1)))) (qCons (qC (.int 1)) qNil)))))) (qgName 7) (qTst (qBin dEq (qDR (qCall pp__law_divisor (qaN 2 (qaN 7 qaNil)))) (qC (.int 1)))) (qTup (qCons (qVar 2) (qCons (qVar 7) qNil))) [7])))
    (qSeq (qDrop (qExt 3 (qLst (qCons (qTup (qCons (qDR (qBinM dAdd 2 (qC (.int 1)))) (qCons (qVar 2) qNil))) (qCons (qTup (qCons (qDR (qBinM dSub 2 (qC (.int 1)))) (qCons (qVar 2) qNil))) (qCons (qTup (qCons (qDR (qBin dSub (qNeg (qVar 2)) (qC (.int 1)))) (qCons (qC (.int 1)) qNil))) (qCons (qTup (qCons (qDR (qBinM dSub 2 (qC (.int 1)))) (qCons (qC (.int 1)) qNil))) qNil)))))))
    qNext)))))) (qSeq (qIfS (qTst (qBinM dEq 2 (qC (.int 1)))) (qSeq (qDrop (qExt 3 (qLst (qCons (qTup (qCons (qC (.int 1)) (qCons (qC (.int 0)) qNil))) (qCons (qTup (qCons (qC (.int 1)) (qCons (qC (.int 1)) qNil))) (qCons (qTup (qCons (qNeg (qC (.int 1))) (qCons (qC (.int 1)) qNil))) (qCons (qTup (qCons (qC (.int 1)) (qCons (qDR (qBin dAdd (qC (.int 2)) (qDR (qCall pp__law_draw (qaN 0 (qaD (qC (.int 20)) qaNil)))))) qNil))) (qCons (qTup (qCons (qNeg (qC (.int 1))) (qCons (qDR (qBin dAdd (qC (.int 2)) (qDR (qCall pp__law_draw (qaN 0 (qaD (qC (.int 20)) qaNil)))))) qNil))) (qCons (qTup (qCons (qC (.int 0)) (qCons (qC (.int 1)) qNil))) qNil)))))))))
    qNext) (qSeq (qDrop (qExt 3 (qLst (qCons (qTup (qCons (qC (.int 1)) (qCons (qC (.int 0)) qNil))) (qCons (qTup (qCons (qC (.int 2)) (qCons (qC (.int 1)) qNil))) (qCons (qTup (qCons (qNeg (qC (.int 2))) (qCons (qC (.int 1)) qNil))) qNil))))))
    qNext))
    qNext))
    (qSeq (qRet (qLc (qItD (qVar 3)) (qgName 8) (qTst (qBin dLe (qDR (qCall pp__law_letters (qaN 8 (qaD (qC (.int 60)) qaNil)))) (qC (.int 60)))) (qVar 8) [8]))
    qNext))))
def q__law_same : QS := (qSeq (qIfS (qOr (qTru (qIsi "bool" (qLook 1))) (qTru (qIsi "int" (qLook 1)))) (qSeq (qRet (qRD (qAndV (qIsi "int" (qLook 0)) (qAndV (qDR (qBin dEq (qIsi "bool" (qLook 0)) (qIsi "bool" (qLook 1)))) (qDR (qBinM dEq 0 (qLook 1)))))))
    qNext) qNext)
    (qSeq (qIfS (qOr (qNot (qTru (qIsi "tuple" (qLook 0)))) (qTst (qBin dNe (qDR (qCl cLen (qCons (qLook 0) qNil))) (qDR (qCl cLen (qCons (qLook 1) qNil)))))) (qSeq (qRet (qRD (qC (.bool false))))
    qNext) qNext)
    (qSeq (qFor (qRng1 (qCons (qDR (qCl cLen (qCons (qLook 1) qNil))) qNil)) (qgName 2) (qSeq (qIfS (qOr (qNot (qTru (qIsi "int" (qDR (qBinM dIx 0 (qLook 2)))))) (qOr (qTru (qIsi "bool" (qDR (qBinM dIx 0 (qLook 2))))) (qTst (qBin dNe (qDR (qBinM dIx 0 (qLook 2))) (qDR (qBinM dIx 1 (qLook 2))))))) (qSeq (qRet (qRD (qC (.bool false))))
    qNext) qNext)
    qNext))
    (qSeq (qRet (qRD (qC (.bool true))))
    qNext))))
def q__law_holds : QS := (qSeq (qSet 2 (qCall pp__law_closing (qaN 1 qaNil)))
    (qSeq (qIfS (qNot (qTru (qDR (qCall pp__law_same (qaD (qDR (qCall pp_closing (qaN 1 qaNil))) (qaN 2 qaNil)))))) (qSeq (qRet (qRD (qC (.bool false))))
    qNext) qNext)
    (qSeq (qSet 3 (qBin dEq (qDR (qBin dMul (qDR (qBin dFdiv (qDR (qBinM dIx 1 (qC (.int 0)))) (qC (.int 2)))) (qC (.int 2)))) (qDR (qBinM dIx 1 (qC (.int 0))))))
    (qSeq (qIfS (qNot (qTru (qDR (qCall pp__law_same (qaD (qDR (qCall pp_closing_ropes (qReord [0] 1 (qaN 1 qaNil)))) (qaD (qDR (qIf (qTru (qVar 3)) (qRD (qC (.int 2))) (qRD (qC (.int 1))))) qaNil)))))) (qSeq (qRet (qRD (qC (.bool false))))
    qNext) qNext)
    (qSeq (qSet 4 (qCall pp__law_partners (qaN 0 (qaN 1 qaNil))))
    (qSeq (qIfS (qTst (qBin dGt (qDR (qCl cAbs (qCons (qDR (qBinM dIx 1 (qC (.int 0)))) qNil))) (qC (.int 10000)))) (qSeq (qSet 4 (qLst (qCons (qDR (qCall pp__law_pick (qaN 0 (qaN 4 qaNil)))) qNil)))
    qNext) qNext)
    (qSeq (qFor (qItD (qVar 4)) (qgName 5) (qSeq (qSet 6 (qBin dEq (qDR (qCall pp__law_closing (qaN 5 qaNil))) (qLook 2)))
    (qSeq (qIfS (qOr (qNot (qTru (qDR (qCall pp__law_same (qaD (qDR (qCall pp_same_closing (qaN 1 (qaN 5 qaNil)))) (qaN 6 qaNil)))))) (qNot (qTru (qDR (qCall pp__law_same (qaD (qDR (qCall pp_same_closing (qReord [0, 1] 2 (qaN 5 (qaN 1 qaNil))))) (qaN 6 qaNil))))))) (qSeq (qRet (qRD (qC (.bool false))))
    qNext) qNext)
    (qSeq (qIfS (qNot (qTru (qDR (qCall pp__law_same (qaD (qDR (qCall pp_closing (qaN 5 qaNil))) (qaD (qDR (qCall pp__law_closing (qaN 5 qaNil))) qaNil)))))) (qSeq (qRet (qRD (qC (.bool false))))
    qNext) qNext)
    qNext))))
    (qSeq (qRet (qRD (qC (.bool true))))
    qNext))))))))
def q_law : QS := (qSeq (qSet 1 (qCall pp__law_bag (qaN 0 qaNil)))
    (qJar 1 good (qSeq (qSet 2 (qBin dEq (qDR (qCall pp__law_draw (qaN 1 (qaD (qC (.int 7)) qaNil)))) (qC (.int 5))))
    (qSeq (qSet 3 (qBin dAdd (qC (.int 3)) (qDR (qCall pp__law_draw (qaN 1 (qaD (qC (.int 11)) qaNil))))))
    (qSeq (qSet 4 (qLst (qCons (qTup (qCons (qTup (qCons (qVar 3) (qCons (qC (.int 1)) qNil))) (qCons (qTup (qCons (qNeg (qVar 3)) (qCons (qDR (qBinM dSub 3 (qC (.int 1)))) qNil))) (qCons (qC (.bool true)) qNil)))) (qCons (qTup (qCons (qTup (qCons (qVar 3) (qCons (qC (.int 1)) qNil))) (qCons (qTup (qCons (qDR (qBinM dAdd 3 (qC (.int 1)))) (qCons (qC (.int 1)) qNil))) (qCons (qC (.bool false)) qNil)))) (qCons (qTup (qCons (qTup (qCons (qVar 3) (qCons (qC (.int 1)) qNil))) (qCons (qTup (qCons (qNeg (qVar 3)) (qCons (qC (.int 1)) qNil))) (qCons (qC (.bool false)) qNil)))) qNil)))))
    (qSeq (qDrop (qExt 4 (qLst (qCons (qTup (qCons (qTup (qCons (qC (.int 1)) (qCons (qC (.int 0)) qNil))) (qCons (qTup (qCons (qNeg (qC (.int 1))) (qCons (qVar 3) qNil))) (qCons (qC (.bool true)) qNil)))) (qCons (qTup (qCons (qTup (qCons (qC (.int 0)) (qCons (qC (.int 1)) qNil))) (qCons (qTup (qCons (qC (.int 1)) (qCons (qC (.int 0)) qNil))) (qCons (qC (.bool false)) qNil)))) (qCons (qTup (qCons (qTup (qCons (qC (.int 2)) (qCons (qC (.int 1)) qNil))) (qCons (qTup (qCons (qNeg (qC (.int 2))) (qCons (qC (.int 1)) qNil))) (qCons (qC (.bool true)) qNil)))) (qCons (qTup (qCons (qTup (qCons (qC (.int 5)) (qCons (qC (.int 2)) qNil))) (qCons (qTup (qCons (qNeg (qC (.int 5))) (qCons (qC (.int 2)) qNil))) (qCons (qC (.bool true)) qNil)))) qNil)))))))
    (qSeq (qFor (qItD (qVar 4)) (qgTup 3 (qgCons (qgName 5) (qgCons (qgName 6) (qgCons (qgName 7) qgNil)))) (qSeq (qIfS (qNot (qTru (qDR (qCall pp__law_same (qaD (qDR (qCall pp_same_closing (qaN 5 (qaN 6 qaNil)))) (qaN 7 qaNil)))))) (qSeq (qRet (qRD (qC (.bool false))))
    qNext) qNext)
    qNext))
    (qSeq (qFor (qRng1 (qCons (qC (.int 6)) qNil)) (qgName 8) (qSeq (qSet 9 (qIf (qAnd (qTru (qVar 2)) (qTst (qBinM dEq 8 (qC (.int 0))))) (qRD (qC (.int 24))) (qRD (qC (.int 0)))))
    (qSeq (qSet 10 (qIf (qAnd (qTru (qVar 2)) (qTst (qBinM dEq 8 (qC (.int 0))))) (qRD (qC (.int 60))) (qBin dAdd (qC (.int 8)) (qDR (qBin dMul (qC (.int 16)) (qDR (qBinM dSub 8 (qDR (qBin dMul (qDR (qBinM dFdiv 8 (qC (.int 2)))) (qC (.int 2)))))))))))
    (qSeq (qIfS (qNot (qTru (qDR (qCall pp__law_holds (qaN 1 (qaD (qDR (qCall pp__law_lead (qaD (qTup (qCons (qC (.int 0)) (qCons (qC (.int 1)) qNil))) (qaD (qDR (qCall pp__law_word (qaN 1 (qaN 9 (qaN 10 qaNil))))) qaNil)))) qaNil)))))) (qSeq (qRet (qRD (qC (.bool false))))
    qNext) qNext)
    qNext))))
    (qSeq (qRet (qCall pp__law_holds (qaN 1 (qaD (qDR (qCall pp__law_pick (qaN 1 (qaD (qTup (qCons (qTup (qCons (qC (.int 0)) (qCons (qC (.int 1)) qNil))) (qCons (qTup (qCons (qC (.int 1)) (qCons (qC (.int 0)) qNil))) (qCons (qTup (qCons (qNeg (qC (.int 1))) (qCons (qC (.int 1)) qNil))) (qCons (qTup (qCons (qVar 3) (qCons (qC (.int 1)) qNil))) (qCons (qTup (qCons (qNeg (qVar 3)) (qCons (qC (.int 1)) qNil))) (qCons (qTup (qCons (qC (.int 1)) (qCons (qVar 3) qNil))) qNil))))))) qaNil)))) qaNil))))
    qNext)))))))))
theorem len_undone_modulo : ∀ gs R, pp_undone_modulo gs R → gs.length = 2 := by
  rintro gs R ⟨r, n, rfl, _⟩; rfl
theorem len_closing : ∀ gs R, pp_closing gs R → gs.length = 1 := by
  rintro gs R ⟨r, n, rfl, _⟩; rfl
theorem len_closing_ropes : ∀ gs R, pp_closing_ropes gs R → gs.length = 1 := by
  rintro gs R ⟨r, n, rfl, _⟩; rfl
theorem len_same_closing : ∀ gs R, pp_same_closing gs R → gs.length = 2 := by
  rintro gs R ⟨p, q, p', q', rfl, _⟩; rfl
theorem spec_closing_ropes : ∀ gs R, pp_closing_ropes gs R → q_closing_ropes (Ends0 R) (startD 1 gs) := by
  rintro gs R ⟨p, q, rfl, h⟩
  unfold q_closing_ropes
  walk_at "ev"
  refine ⟨by omega, ?_⟩
  split <;> rename_i z <;> simpa [z] using h
theorem spec_undone_modulo : ∀ gs R, pp_undone_modulo gs R → q_undone_modulo (Ends0 R) (startD 5 gs) := by
  rintro gs R ⟨r, n, rfl, hn, hB, h1, h2, hg, h⟩
  unfold q_undone_modulo
  walk_at "ev"
  have hn0 : 0 ≤ n := by omega
  refine while_of (fun m ρ => ∃ a0 a1 b0 b1 x, ρ = [.da (.int r), .da (.int n), .da (.tuple [.int a0, .int a1]), .da (.tuple [.int b0, .int b1]), x] ∧ Eu r n a0 a1 b0 b1 ∧ 1 ≤ b0 ∧ b0 ≤ n ∧ a0 ≤ n ∧ 0 < a0 ∧ m = b0.toNat) r.toNat
    ⟨n, 0, r, 1, .un, rfl, .start hn (by omega) hg, h1, by omega, by omega, by omega, rfl⟩ ?_
  rintro m ρ ⟨a0, a1, b0, b1, x, rfl, he, hb1, hbn, han, ha0, rfl⟩
  obtain ⟨s1, s2, _⟩ := he.small
  have c1 : b0.natAbs < 2 ^ 400 := n400 (lt200 hB hn0 (by omega))
  have c2 : b1.natAbs < 2 ^ 400 := n400 (lt200 hB hn0 (by omega))
  have c3 : (a0 / b0).natAbs < 2 ^ 400 := n400 (lt200 hB hn0 (by
    have : a0 / b0 ≤ a0 := Int.ediv_le_self _ (by omega)
    have : 0 ≤ a0 / b0 := Int.ediv_nonneg (by omega) (by omega)
    omega))
  walk_at "ev"
  by_cases z : b0 = 1
  · subst z
    simp only [decide_true, not_true_eq_false, if_false]
    refine ⟨by omega, h _ (he.last hn)⟩
  · obtain ⟨p1, p2⟩ := he.next_pos hb1 z
    simp only [z, not_false_eq_true, if_true]
    refine ⟨divW (by omega) c1, mulW c3 c1, mulW c3 c2, ?_⟩
    exact ⟨_, by omega, he.step (by omega), by omega, by omega, hbn, by omega, rfl⟩
theorem spec_closing : ∀ gs R, pp_closing gs R → q_closing (Ends0 R) (startD 5 gs) := by
  rintro gs R ⟨p, q, rfl, hc, hb, h⟩
  unfold q_closing
  walk_at "ev"
  by_cases z : (p.natAbs : Int) < 2
  · rw [if_pos z]
    exact h _ _ ⟨rfl, fun _ => rfl, fun y => absurd y (by omega)⟩
  · rw [if_neg z]
    obtain ⟨r1, r2, r3⟩ := Rr_ok hc (by omega)
    have fin : ∀ d, IsInv (Rr p q) p.natAbs d → R (Sl.da (.tuple [.int p.natAbs, .int (if d < Rr p q then d else Rr p q)])) := fun d hd =>
      h _ _ ⟨rfl, fun y => absurd y (by omega), fun _ => ⟨d, hd, rfl⟩⟩
    unfold Rr at *
    split
    · rename_i hp
      simp only [hp, if_true] at r1 r2 r3 fin
      refine ⟨by omega, _, _, rfl, by omega, by omega, r1, r2, r3, fun d hd => ?_⟩
      walk_at "ev"
      exact fin d hd
    · rename_i hp
      simp only [hp, if_false] at r1 r2 r3 fin
      refine ⟨by omega, _, _, rfl, by omega, by omega, r1, r2, r3, fun d hd => ?_⟩
      walk_at "ev"
      exact fin d hd

theorem sh2 (a b : Int) : SeqAt.shaped (.tuple [.int a, .int b]) = true := rfl
theorem eqv2 (a b c d : Int) : PyData.eqv (.tuple [.int a, .int b]) (.tuple [.int c, .int d]) = decide (a = c ∧ b = d) := by
  simp only [PyData.eqv, PyData.eqvAll, Bool.and_true]
  by_cases h1 : a = c <;> by_cases h2 : b = d <;> simp [h1, h2]
theorem spec_same_closing : ∀ gs R, pp_same_closing gs R → q_same_closing (Ends0 R) (startD 2 gs) := by
  rintro gs R ⟨p, q, p', q', rfl, hc, hb, hc', hb', h⟩
  unfold q_same_closing
  walk_at "ev"
  refine ⟨_, _, rfl, hc, hb, fun n k h1 => ?_⟩
  walk_at "ev"
  refine ⟨_, _, rfl, hc', hb', fun n' k' h2 => ?_⟩
  walk_at "ev"
  rw [eqv2]
  exact ⟨sh2 _ _, sh2 _ _, h n k n' k' h1 h2⟩
theorem spec__law_pick : ∀ gs R, pp__law_pick gs R → q__law_pick (Ends0 R) (startD 2 gs) := by
  rintro gs R ⟨ds, hg, hn, hl, h⟩
  have hpos : 0 < ds.length := by
    cases ds with
    | nil => exact absurd rfl hn
    | cons _ _ => simp
  have hB : (ds.length : Int) < B200 := Int.lt_trans (show (ds.length : Int) < 1000 by omega) (by decide)
  unfold q__law_pick
  rcases hg with rfl | rfl
  all_goals
    walk_at "ev"
    refine ⟨_, rfl, by omega, hB, fun r h0 h1 => ?_⟩
    walk_at "ev"
    obtain ⟨x, hx, hm, _⟩ := atI_of h0 h1
    exact ⟨x, hx, h x hm⟩
theorem spec__law_move : ∀ gs R, pp__law_move gs R → q__law_move (Ends0 R) (startD 4 gs) := by
  rintro gs R ⟨p, q, h⟩
  unfold q__law_move
  rcases h with ⟨rfl, h⟩ | ⟨rfl, h⟩ | ⟨rfl, h⟩
  · walk_at "ev"
    unfold mA at h
    split <;> rename_i z
    · rw [if_pos z] at h; exact h
    · rw [if_neg z] at h; exact h
  · walk_at "ev"
    rw [if_neg (show ¬ Str.ofString "back" = Str.ofString "twist" by decide)]
    unfold mB at h
    split <;> rename_i z
    · rw [if_pos z] at h; exact h
    · rw [if_neg z] at h; exact h
  · walk_at "ev"
    rw [if_neg (show ¬ Str.ofString "turn" = Str.ofString "twist" by decide), if_neg (show ¬ Str.ofString "turn" = Str.ofString "back" by decide)]
    unfold mT at h
    split <;> rename_i z
    · rw [if_pos z] at h; exact h
    · rw [if_neg z] at h
      split <;> rename_i y
      · rw [if_pos y] at h; exact h
      · rw [if_neg y] at h; exact h
theorem spec__law_letter : ∀ gs R, pp__law_letter gs R → q__law_letter (Ends0 R) (startD 2 gs) := by
  rintro gs R ⟨p, q, m, s, k, rfl, hc, hl, hs, h⟩
  obtain ⟨t1, t2⟩ := nm_T hc
  obtain ⟨a1, a2⟩ := nm_A hc
  obtain ⟨b1, b2⟩ := nm_B t1
  obtain ⟨c1, c2⟩ := nm_T a1
  unfold q__law_letter
  walk_at "ev"
  split
  · refine ⟨p, q, .inr (.inr ⟨rfl, ?_⟩)⟩
    unfold pr2
    walk_at "ev"
    exact h _ _ t1 (lk_T hc hl) (by omega)
  · split
    · refine ⟨p, q, .inl ⟨rfl, ?_⟩⟩
      unfold pr2
      walk_at "ev"
      refine ⟨_, _, .inr (.inr ⟨rfl, ?_⟩)⟩
      unfold pr2
      walk_at "ev"
      exact h _ _ c1 (lk_W hc hl) (by omega)
    · refine ⟨p, q, .inr (.inr ⟨rfl, ?_⟩)⟩
      unfold pr2
      walk_at "ev"
      refine ⟨_, _, .inr (.inl ⟨rfl, ?_⟩)⟩
      unfold pr2
      walk_at "ev"
      exact h _ _ b1 (lk_V hc hl) (by omega)
theorem spec__law_lead : ∀ gs R, pp__law_lead gs R → q__law_lead (Ends0 R) (startD 3 gs) := by
  rintro gs R ⟨w, rfl, hw, h⟩
  unfold q__law_lead
  walk_at "ev"
  refine loop_of (fun ds ρ => ∃ p q l, ρ = [.da (.tuple [.int p, .int q]), .da (.str w), l] ∧ Nm p q ∧ Lk (60 - ds.length) p q ∧ (p.natAbs : Int) + q.natAbs ≤ 4 ^ (60 - ds.length) ∧ ds.length ≤ 60 ∧ ∀ d ∈ ds, ∃ m, d = .str m) ?_ ?_ _ _ ?_
  · rintro ρ ⟨p, q, l, rfl, hc, hk, hs, _, _⟩
    walk_at "ev"
    exact h p q hc.1 hk (Int.le_trans hs (by decide))
  · rintro d ds ρ ⟨p, q, l, rfl, hc, hk, hs, hl, hd⟩ ih
    obtain ⟨m, rfl⟩ := hd d (List.mem_cons_self ..)
    rw [List.length_cons] at hl hs hk
    have e : 60 - ds.length = (60 - (ds.length + 1)) + 1 := by omega
    walk_at "ev"
    refine ⟨p, q, _, 4 ^ (60 - (ds.length + 1)), _, rfl, hc, hk, hs, fun p' q' h2 h3 h4 => ?_⟩
    walk_at "ev"
    refine ih _ ⟨p', q', _, rfl, h2, by rw [e]; exact h3, ?_, by omega, fun d hd' => hd d (List.mem_cons_of_mem _ hd')⟩
    rw [e, Int.pow_succ]
    omega
  · refine ⟨0, 1, _, rfl, ⟨by decide, by decide, fun h => absurd h (by decide), fun _ => rfl⟩, lk_zero _, ?_, ?_, ?_⟩
    · have : (1 : Int) ≤ 4 ^ (60 - (List.map sgn w.cps.toList).length) := Int.pow_pos (by decide)
      simpa using this
    · rw [List.length_map, Array.length_toList]; exact hw
    · intro d hd
      obtain ⟨c, _, rfl⟩ := List.mem_map.mp hd
      exact ⟨_, rfl⟩
theorem len__law_word : ∀ gs R, pp__law_word gs R → gs.length = 3 := by
  rintro gs R ⟨a, b, rfl, _⟩; rfl
theorem spec__law_word : ∀ gs R, pp__law_word gs R → q__law_word (Ends0 R) (startD 7 gs) := by
  rintro gs R ⟨least, most, rfl, h0, h1, h2, h⟩
  have hB := bigB
  unfold q__law_word
  walk_at "ev"
  refine ⟨_, rfl, by omega, by omega, fun r hr0 hr1 => ?_⟩
  walk_at "ev"
  split
  · unfold pp__law_pick
    walk_at "ev"
    refine ⟨_, .inr rfl, by simp, by simp, fun x hx => ?_⟩
    simp only [List.mem_cons, List.not_mem_nil, or_false] at hx
    rcases hx with rfl | rfl
    · walk_at "ev"; exact h _ (by decide)
    · walk_at "ev"; exact h _ (by decide)
  · rename_i hne
    split
    all_goals
      refine ⟨_, rfl, by decide, by omega, fun habit _ _ => ?_⟩
      walk_at "ev"
      refine ⟨by decide, by decide, by omega, by omega, ?_⟩
      refine range_of (fun lo n ρ => ∃ w x, ρ = [.ja, .da (.int least), .da (.int most), .da (.int (least + r)), .da (.str w), .da (.int habit), x] ∧ (w.length : Int) ≤ lo ∧ 1 ≤ lo ∧ lo + n ≤ 60) ?_ ?_ _ _ _ ?_
      · rintro lo ρ ⟨w, x, rfl, hw, _, hl⟩
        walk_at "ev"
        exact h w (by omega)
      · rintro lo n ρ ⟨w, x, rfl, hw, h3, hl⟩ ih
        have d2 : CDivW lo 2 := divW (by omega) (by decide)
        have d4 : CDivW lo 4 := divW (by omega) (by decide)
        have m2 : CMulA (lo / 2) 2 := mulS (by omega) (by decide)
        have m4 : CMulA (lo / 4) 2 := mulS (by omega) (by decide)
        have one : ∀ c : Nat, (w ++ (⟨#[c]⟩ : Str)).length = w.length + 1 := fun c => app_len w _
        walk_at "ev"
        refine ⟨d2, m2, ?_⟩
        have hgo : ∀ z : Str, z.length = 1 → (w ++ z).length ≤ lo + 1 := fun z hz => by rw [app_len, hz]; omega
        split
        · refine ⟨szl (by omega) rfl, ih _ ⟨_, _, rfl, hgo _ rfl, by omega, by omega⟩⟩
        · split
          · refine ⟨szl (by omega) rfl, ih _ ⟨_, _, rfl, hgo _ rfl, by omega, by omega⟩⟩
          · split
            · skip
              refine ⟨d2, d4, m4, by decide, ?_⟩
              obtain ⟨c, hc, _⟩ := atI_of (xs := (Str.ofString "wv").cps.toList) (i := lo / 2 - lo / 4 * 2) (by omega) (by show _ < (2 : Int); omega)
              exact ⟨c, hc, szl (by omega) rfl, ih _ ⟨_, _, rfl, hgo _ rfl, by omega, by omega⟩⟩
            · refine ⟨_, .inr rfl, by simp, by simp, fun x hx => ?_⟩
              simp only [List.mem_cons, List.not_mem_nil, or_false] at hx
              rcases hx with rfl | rfl
              · walk_at "ev"
                refine ⟨szl (by omega) rfl, ih _ ⟨_, _, rfl, hgo _ rfl, by omega, by omega⟩⟩
              · walk_at "ev"
                refine ⟨szl (by omega) rfl, ih _ ⟨_, _, rfl, hgo _ rfl, by omega, by omega⟩⟩
      · exact ⟨_, _, rfl, by decide, by decide, by omega⟩
theorem bits_lt {n : Int} (h : 0 < n) : n < 2 ^ (Builtin.Int.intBits n) := by
  unfold Builtin.Int.intBits
  have z : (n == 0) = false := by simp; omega
  rw [z]
  have := @Nat.lt_log2_self n.natAbs
  have e : (n.natAbs : Int) = n := by omega
  have e2 : ((2 ^ (n.natAbs.log2 + 1) : Nat) : Int) = 2 ^ (n.natAbs.log2 + 1) := by simp
  simp only [Bool.false_eq_true, if_false]
  omega
theorem bits_200 {n : Int} (h : n < B200) (h0 : 0 < n) : Builtin.Int.intBits n ≤ 200 := by
  unfold Builtin.Int.intBits
  have z : (n == 0) = false := by simp; omega
  rw [z]
  simp only [Bool.false_eq_true, if_false]
  have e : ((2 ^ 200 : Nat) : Int) = B200 := by decide
  have := (Nat.log2_lt (n := n.natAbs) (k := 200) (by omega)).mpr (by omega)
  omega
theorem two_bits {n m : Int} (h : 0 < n) (h0 : 0 ≤ m) (h1 : m ≤ n) : n * m < 2 ^ (2 * Builtin.Int.intBits n) := by
  have a := bits_lt h
  have p : (0 : Int) < 2 ^ (Builtin.Int.intBits n) := Int.pow_pos (by decide)
  have b : n * m ≤ n * 2 ^ (Builtin.Int.intBits n) := Int.mul_le_mul_of_nonneg_left (by omega) (by omega)
  have c : n * 2 ^ (Builtin.Int.intBits n) < 2 ^ (Builtin.Int.intBits n) * 2 ^ (Builtin.Int.intBits n) := Int.mul_lt_mul_of_pos_right a p
  rw [Nat.two_mul, Int.pow_add]
  omega
theorem mod_alt (a b : Int) : a - a / b * b = a % b := by
  have := Int.emod_add_mul_ediv a b
  grind
theorem spec__law_letters : ∀ gs R, pp__law_letters gs R → q__law_letters (Ends0 R) (startD 6 gs) := by
  rintro gs R ⟨p, q, rfl, h⟩
  unfold q__law_letters
  walk_at "ev"
  refine ⟨by decide, by decide, ?_⟩
  refine range_of (fun lo n ρ => ∃ x y c z1 z2 z3, ρ = [.da (.tuple [.int x, .int y]), .da (.int 60), .da (.int c), z1, z2, z3] ∧ (Lk 60 p q → ∃ k, Lk k x y ∧ c + k ≤ 60 ∧ lo + n = 61 ∧ c = lo)) ?_ ?_ _ _ _ ⟨_, _, _, _, _, _, rfl, fun l => ⟨60, l, by decide, by decide, rfl⟩⟩
  · rintro lo ρ ⟨x, y, c, z1, z2, z3, rfl, hk⟩
    walk_at "ev"
    refine h _ fun l => ?_
    obtain ⟨k, hk, h1, h2, h3⟩ := hk l
    omega
  · rintro lo n ρ ⟨x, y, c, z1, z2, z3, rfl, hk⟩ ih
    walk_at "ev"
    simp only [eqv2, decide_eq_true_eq]
    have go : ∀ x' y', st x y = (x', y') → ¬ (x = 0 ∧ y = 1) → loopD (qgName 3) _ _ (rangeD (lo + 1) n) [.da (.tuple [.int x', .int y']), .da (.int 60), .da (.int (c + 1)), .da (.int lo), .da (.int x), .da (.int y)] := fun x' y' e ne =>
      ih _ ⟨x', y', c + 1, _, _, _, rfl, fun l => by
        obtain ⟨k, hk, h1, h2, h3⟩ := hk l
        cases k with
        | zero => exact absurd hk ne
        | succ k =>
          rcases hk with hk | hk
          · exact absurd hk ne
          · rw [e] at hk
            exact ⟨k, hk, by omega, by omega, by omega⟩⟩
    refine ⟨sh2 _ _, sh2 _ _, ?_⟩
    by_cases z : x = 0 ∧ y = 1
    · rw [if_pos z]
      refine h _ fun l => ?_
      obtain ⟨k, hk, h1, h2, h3⟩ := hk l
      omega
    · rw [if_neg z]
      split
      · rename_i y0
        subst y0
        exact go _ _ st_q z
      · split
        · exact go _ _ (st_a (by assumption) (by assumption)) z
        · split
          · exact go _ _ (st_b (by assumption) (by omega) (by assumption)) z
          · exact go _ _ (st_c (by assumption) (by omega) (by omega)) z
theorem spec__law_inverse : ∀ gs R, pp__law_inverse gs R → q__law_inverse (Ends0 R) (startD 10 gs) := by
  rintro gs R ⟨r, n, rfl, hn, hB, h1, h2, hg, h⟩
  have hn0 : 0 ≤ n := by omega
  have hb := bits_200 hB (by omega)
  unfold q__law_inverse
  walk_at "ev"
  have em : r % n = r := Int.emod_eq_of_lt (by omega) h2
  have dn : 0 < n := by omega
  refine ⟨dn, mulS (by decide) (by omega), by omega, by omega, ?_⟩
  rw [em]
  have fin : ∀ f, IsInv r n (f % n) → 0 < n ∧ R (.da (.int (f % n))) := fun f hf => ⟨by omega, h _ hf⟩
  refine range_of (fun lo k ρ => ∃ a0 a1 b0 b1 z1 z2 z3 z4, ρ = [.da (.int r), .da (.int n), .da (.int a0), .da (.int b0), .da (.int a1), .da (.int b1), z1, z2, z3, z4] ∧ Eu r n a0 a1 b0 b1 ∧ 0 ≤ b0 ∧ b0 < a0 ∧ a0 ≤ n ∧ a0 * b0 < 2 ^ k) ?_ ?_ _ _ _ ⟨_, _, _, _, _, _, _, _, rfl, .start hn (by omega) hg, by omega, h2, by omega, ?_⟩
  · rintro lo ρ ⟨a0, a1, b0, b1, z1, z2, z3, z4, rfl, he, p1, p2, p3, p4⟩
    have z : b0 = 0 := by
      rcases Int.lt_or_eq_of_le p1 with y | y
      · have : 0 < a0 * b0 := Int.mul_pos (by omega) y
        have : (2 : Int) ^ 0 = 1 := rfl
        omega
      · exact y.symm
    subst z
    walk_at "ev"
    exact fin _ (he.end0 hn)
  · rintro lo k ρ ⟨a0, a1, b0, b1, z1, z2, z3, z4, rfl, he, p1, p2, p3, p4⟩ ih
    obtain ⟨s1, s2, _⟩ := he.small
    walk_at "ev"
    by_cases z : b0 = 0
    · subst z
      simp only [if_true]
      exact fin _ (he.end0 hn)
    · rw [if_neg z]
      have c1 : b0.natAbs < 2 ^ 400 := n400 (lt200 hB hn0 (by omega))
      have c2 : b1.natAbs < 2 ^ 400 := n400 (lt200 hB hn0 (by omega))
      have c3 : (a0 / b0).natAbs < 2 ^ 400 := n400 (lt200 hB hn0 (by
        have : a0 / b0 ≤ a0 := Int.ediv_le_self _ (by omega)
        have : 0 ≤ a0 / b0 := Int.ediv_nonneg (by omega) (by omega)
        omega))
      refine ⟨divW (by omega) c1, mulW c3 c1, mulW c3 c2, ih _ ⟨_, _, _, _, _, _, _, _, rfl, he.step (by omega), ?_, ?_, by omega, ?_⟩⟩
      all_goals rw [mod_alt]
      · exact Int.emod_nonneg _ z
      · exact Int.emod_lt_of_pos _ (by omega)
      · have := half (u := a0) (l := b0) (by omega) (by omega)
        rw [Int.pow_succ] at p4
        omega
  · have t := two_bits (n := n) (m := r) (by omega) (by omega) (by omega)
    have e : (2 * (Builtin.Int.intBits n : Int) + 4).toNat = 2 * Builtin.Int.intBits n + 4 := by omega
    rw [e, Int.pow_add]
    have : (0 : Int) < 2 ^ (2 * Builtin.Int.intBits n) := Int.pow_pos (by decide)
    omega
theorem spec__law_divisor : ∀ gs R, pp__law_divisor gs R → q__law_divisor (Ends0 R) (startD 4 gs) := by
  rintro gs R ⟨a, b, rfl, h1, h2, h3, h4, h⟩
  unfold q__law_divisor
  walk_at "ev"
  generalize hm : (if b > a then b else a) = m
  have m0 : 0 < m ∧ a ≤ m ∧ b ≤ m ∧ m < B200 := by split at hm <;> omega
  obtain ⟨m1, m2, m3, m4⟩ := m0
  have hb := bits_200 m4 m1
  refine ⟨mulS (by decide) (by omega), by omega, by omega, ?_⟩
  refine range_of (fun lo k ρ => ∃ u l z1 z2, ρ = [.da (.int u), .da (.int l), z1, z2] ∧ Int.gcd u l = Int.gcd a b ∧ 0 < u ∧ 0 ≤ l ∧ l ≤ m ∧ (if u < l then 2 * (u * l) else u * l) < 2 ^ k) ?_ ?_ _ _ _ ⟨_, _, _, _, rfl, rfl, h1, h3, m3, ?_⟩
  · rintro lo ρ ⟨u, l, z1, z2, rfl, hg, p1, p2, p3, p4⟩
    have z : l = 0 := by
      rcases Int.lt_or_eq_of_le p2 with y | y
      · have : 0 < u * l := Int.mul_pos (by omega) y
        have : (2 : Int) ^ 0 = 1 := rfl
        split at p4 <;> omega
      · exact y.symm
    subst z
    walk_at "ev"
    rw [Int.gcd_zero_right] at hg
    have : ((Int.gcd a b : Nat) : Int) = u := by omega
    rw [this] at h
    exact h
  · rintro lo k ρ ⟨u, l, z1, z2, rfl, hg, p1, p2, p3, p4⟩ ih
    walk_at "ev"
    by_cases z : l = 0
    · subst z
      simp only [if_true]
      rw [Int.gcd_zero_right] at hg
      have : ((Int.gcd a b : Nat) : Int) = u := by omega
      rw [this] at h
      exact h
    · rw [if_neg z]
      refine ⟨by omega, ih _ ⟨_, _, _, _, rfl, by rw [gcd_mod]; exact hg, by omega, Int.emod_nonneg _ z, ?_, ?_⟩⟩
      · have := Int.emod_lt_of_pos u (show 0 < l by omega)
        omega
      · have q := Int.emod_lt_of_pos u (show 0 < l by omega)
        rw [if_neg (by omega)]
        rw [Int.pow_succ] at p4
        by_cases y : u < l
        · rw [if_pos y] at p4
          rw [Int.emod_eq_of_lt (by omega) y, Int.mul_comm l u]
          omega
        · rw [if_neg y] at p4
          have := half (u := u) (l := l) (by omega) (by omega)
          omega
  · have t := two_bits (n := m) (m := m) (by omega) (by omega) (by omega)
    have e : (2 * (Builtin.Int.intBits m : Int) + 4).toNat = 2 * Builtin.Int.intBits m + 4 := by omega
    have : a * b ≤ m * m := Int.mul_le_mul m2 m3 h3 (by omega)
    have : (0 : Int) < 2 ^ (2 * Builtin.Int.intBits m) := Int.pow_pos (by decide)
    rw [e, Int.pow_add]
    have : 0 ≤ a * b := Int.mul_nonneg (by omega) h3
    split <;> omega
theorem spec__law_closing : ∀ gs R, pp__law_closing gs R → q__law_closing (Ends0 R) (startD 3 gs) := by
  rintro gs R ⟨p, q, rfl, hc, hb, h⟩
  unfold q__law_closing
  walk_at "ev"
  by_cases z : (p.natAbs : Int) < 2
  · rw [if_pos z]
    exact h _ _ ⟨rfl, fun _ => rfl, fun y => absurd y (by omega)⟩
  · rw [if_neg z]
    obtain ⟨r1, r2, r3⟩ := Rr_ok hc (by omega)
    have fin : ∀ d, IsInv (Rr p q) p.natAbs d → R (Sl.da (.tuple [.int p.natAbs, .int (if d < Rr p q then d else Rr p q)])) := fun d hd =>
      h _ _ ⟨rfl, fun y => absurd y (by omega), fun _ => ⟨d, hd, rfl⟩⟩
    unfold Rr at *
    split
    · rename_i hp
      simp only [hp, if_true] at r1 r2 r3 fin
      refine ⟨by omega, _, _, rfl, by omega, by omega, r1, r2, r3, fun d hd => ?_⟩
      walk_at "ev"
      exact fin d hd
    · rename_i hp
      simp only [hp, if_false] at r1 r2 r3 fin
      refine ⟨by omega, _, _, rfl, by omega, by omega, r1, r2, r3, fun d hd => ?_⟩
      walk_at "ev"
      exact fin d hd
theorem spec__law_same : ∀ gs R, pp__law_same gs R → q__law_same (Ends0 R) (startD 3 gs) := by
  rintro gs R ⟨d, rfl, hd, h⟩
  unfold q__law_same
  rcases hd with ⟨b, rfl⟩ | ⟨i, rfl⟩ | ⟨i, j, rfl⟩
  · walk_at "ev"
    exact h
  · walk_at "ev"
    exact h
  · walk_at "ev"
    refine ⟨by decide, by decide, ?_⟩
    show loopD (qgName 2) _ _ [.int 0, .int 1] _
    walk_at "un"
    exact h
theorem prk_of {p q : Int} (hc : Co p q) (hb : (p.natAbs : Int) < B200) : Pr (.tuple [.int p, .int q]) := ⟨p, q, rfl, hc, hb⟩
theorem prs_nil : ∀ d ∈ ([] : List D), Pr d := fun d h => absurd h (by simp)
theorem prs_cons {d : D} {ds : List D} (h : Pr d) (hs : ∀ x ∈ ds, Pr x) : ∀ x ∈ d :: ds, Pr x := fun x hx => by
  rcases List.mem_cons.mp hx with rfl | hx
  · exact h
  · exact hs x hx
theorem prs_app {ds es : List D} (h : ∀ x ∈ ds, Pr x) (hs : ∀ x ∈ es, Pr x) : ∀ x ∈ ds ++ es, Pr x := fun x hx => by
  rcases List.mem_append.mp hx with hx | hx
  · exact h x hx
  · exact hs x hx
theorem co_inv {n r d : Int} (h : IsInv r n d) : Co n d := by
  obtain ⟨_, _, c, hc⟩ := h
  unfold Co
  have h1 : ((Int.gcd n d : Nat) : Int) ∣ n := Int.gcd_dvd_left ..
  have h2 : ((Int.gcd n d : Nat) : Int) ∣ d := Int.gcd_dvd_right ..
  have h3 : ((Int.gcd n d : Nat) : Int) ∣ d * r - n * c := Int.dvd_sub (Int.dvd_mul_of_dvd_left h2) (Int.dvd_mul_of_dvd_left h1)
  have h4 : d * r - n * c = 1 := by omega
  rw [h4] at h3
  have := Int.eq_one_of_dvd_one (by omega) h3
  omega
theorem co_neg {n x : Int} (h : Co n x) : Co (-n) x := by unfold Co; rw [Int.neg_gcd]; exact h
theorem co_sub2 {n x : Int} (h : Co n x) : Co n (n - x) := by unfold Co; rw [Int.gcd_self_sub_right]; exact h
theorem co_add2 {n x : Int} (h : Co n x) : Co n (x + n) := by unfold Co; rw [Int.gcd_add_self_right]; exact h
theorem co_two {n x : Int} (h : Co n x) : Co n (2 * n - x) := by
  have e : 2 * n - x = n - x + n := by omega
  rw [e]
  exact co_add2 (co_sub2 h)
theorem co_one {n : Int} : Co n 1 := Int.gcd_one_right ..
theorem co_up {n : Int} : Co (n + 1) n := by unfold Co; rw [Int.gcd_comm, Int.gcd_self_add_right]; exact co_one
theorem co_down {n : Int} : Co (n - 1) n := by unfold Co; rw [Int.gcd_comm, Int.gcd_self_sub_right]; exact co_one
theorem pt_fin {R : Sl → Prop} {p q n : Int} (hl : 10000 < n → Lk 60 p q) (h : ∀ ds, (∀ d ∈ ds, Pr d) → (10000 < n → ds ≠ []) → ds.length < 1000 → R (.ow ds)) (x0 x1 x2 x3 x4 x5 x6 x7 : Sl)
    (found : List D) (h1 : ∀ d ∈ found, Pr d) (h2 : 10000 < n → PyData.tuple [.int p, .int q] ∈ found) (h3 : found.length ≤ 100) :
    lcD (qgName 8) (qTst (qBin dLe (qDR (qCall pp__law_letters (qaN 8 (qaD (qC (.int 60)) qaNil)))) (qC (.int 60)))) (qVar 8) [8]
      [x0, x1, x2, x3, x4, x5, x6, x7, .un] (fun acc => R (.ow acc)) found [] := by
  refine lc_of (fun ds acc => (∀ d ∈ ds, Pr d) ∧ (∀ d ∈ acc, Pr d) ∧ (10000 < n → acc ≠ [] ∨ PyData.tuple [.int p, .int q] ∈ ds) ∧ acc.length + ds.length ≤ 100) ?_ ?_ _ _ ⟨h1, prs_nil, fun z => .inr (h2 z), by simpa using h3⟩
  · rintro acc ⟨_, a, b, c⟩
    exact h acc a (fun z => (b z).elim id (fun y => absurd y (by simp))) (by omega)
  · rintro d ds acc ⟨a, b, c, e⟩ ih
    obtain ⟨x, y, rfl, hc, hb⟩ := a d (List.mem_cons_self ..)
    rw [List.length_cons] at e
    have a' : ∀ d ∈ ds, Pr d := fun d hd => a d (List.mem_cons_of_mem _ hd)
    walk_at "ev"
    refine ⟨x, y, rfl, fun k hk => ?_⟩
    walk_at "ev"
    split
    · refine ⟨Nat.lt_of_le_of_lt (show acc.length ≤ 100 by omega) (by decide), ih _ ⟨a', prs_app b (prs_cons (prk_of hc hb) prs_nil), fun _ => .inl (by simp), ?_⟩⟩
      rw [List.length_append, List.length_singleton]
      omega
    · rename_i nk
      refine ih _ ⟨a', b, fun z => ?_, by omega⟩
      rcases c z with w | w
      · exact .inl w
      · rcases List.mem_cons.mp w with w | w
        · simp only [PyData.tuple.injEq, List.cons.injEq, PyData.int.injEq, and_true] at w
          obtain ⟨rfl, rfl⟩ := w
          exact absurd (hk (hl z)) nk
        · exact .inr w
theorem spec__law_partners : ∀ gs R, pp__law_partners gs R → q__law_partners (Ends0 R) (startD 9 gs) := by
  rintro gs R ⟨p, q, rfl, ⟨hc, hb, hl⟩, h⟩
  have eB : B200 = 2 ^ 200 := rfl
  have pB : (2 : Int) ^ 120 + 2 < B200 := by decide
  have sz : ∀ {k : Nat}, k ≤ 200 → k ≤ sizeLine := fun z => sz200 z
  unfold q__law_partners
  walk_at "ev"
  have pt := prk_of hc (show (p.natAbs : Int) < B200 by omega)
  by_cases n1 : 1 < (p.natAbs : Int)
  · rw [if_pos n1]
    obtain ⟨r1, r2, r3⟩ := Rr_ok hc (by omega)
    have hr : Rr p q = (if 0 < p then q else -q) % (p.natAbs : Int) := rfl
    generalize hn : (p.natAbs : Int) = n at *
    generalize Rr p q = r at *
    have cr : Co n r := by unfold Co; rw [Int.gcd_comm]; exact r3
    have bn : (n.natAbs : Int) < B200 := by omega
    have bm : ((-n).natAbs : Int) < B200 := by omega
    split <;> rename_i hp
    all_goals
      first | rw [if_pos hp] at hr | rw [if_neg hp] at hr
      rw [← hr]
      refine ⟨by omega, _, _, rfl, by omega, by omega, r1, r2, r3, fun d hd => ?_⟩
      walk_at "ev"
      refine ⟨_, rfl, by omega, by omega, fun near h0 h1 => ?_⟩
      have cd := co_inv hd
      obtain ⟨d1, d2, _⟩ := hd
      walk_at "ev"
      refine ⟨mulS (by decide) (by omega), sz (by decide), ?_⟩
      refine lc_of (fun ds acc => (∀ d ∈ ds, ∃ x, d = .int x ∧ 0 ≤ x ∧ x < B200) ∧ (∀ d ∈ acc, Pr d) ∧ acc.length + ds.length ≤ 4) ?_ ?_ _ _ ⟨?_, prs_nil, by simp⟩
      · rintro acc ⟨_, a, b⟩
        refine ⟨sz (by omega), sz (by omega), pt_fin hl h _ _ _ _ _ _ _ _ _ ?_ (fun _ => List.mem_cons_self ..) ?_⟩
        · exact prs_cons pt (prs_cons (prk_of cr bn) (prs_cons (prk_of cd bn) (prs_cons (prk_of (co_neg (co_sub2 cr)) bm) (prs_cons (prk_of (co_neg (co_sub2 cd)) bm) (prs_cons (prk_of (co_add2 cr) bn)
            (prs_cons (prk_of (co_neg (co_two cd)) bm) (prs_cons (prk_of (co_sub2 cr) bn) (prs_cons (prk_of (co_neg cr) bm) (prs_app a
            (prs_cons (prk_of co_up (by omega)) (prs_cons (prk_of co_down (by omega)) (prs_cons (prk_of co_one (by omega)) (prs_cons (prk_of co_one (by omega)) prs_nil)))))))))))))
        · simp only [List.length_cons, List.length_append, List.length_nil]
          omega
      · rintro d ds acc ⟨a, b, e⟩ ih
        obtain ⟨x, rfl, x0, x1⟩ := a d (List.mem_cons_self ..)
        rw [List.length_cons] at e
        have a' : ∀ d ∈ ds, ∃ x, d = .int x ∧ 0 ≤ x ∧ x < B200 := fun d hd => a d (List.mem_cons_of_mem _ hd)
        walk_at "ev"
        refine ⟨n, x, rfl, by omega, by omega, x0, x1, ?_⟩
        walk_at "ev"
        split <;> rename_i g1
        · refine ⟨Nat.lt_of_le_of_lt (show acc.length ≤ 4 by omega) (by decide), ih _ ⟨a', prs_app b (prs_cons (prk_of (show Int.gcd n x = 1 by omega) bn) prs_nil), ?_⟩⟩
          rw [List.length_append, List.length_singleton]
          omega
        · exact ih _ ⟨a', b, by omega⟩
      · intro d hd
        simp only [List.mem_cons, List.not_mem_nil, or_false] at hd
        rcases hd with rfl | rfl | rfl | rfl
        · exact ⟨_, rfl, by omega, by omega⟩
        · exact ⟨_, rfl, by omega, by omega⟩
        · exact ⟨_, rfl, by omega, by omega⟩
        · exact ⟨_, rfl, by omega, by omega⟩
  · rw [if_neg n1]
    have one : ((1 : Int).natAbs : Int) < B200 := by decide
    have mone : ((-1 : Int).natAbs : Int) < B200 := by decide
    have c1 : ∀ x, Co 1 x := fun x => Int.one_gcd
    split
    · refine ⟨_, rfl, by decide, by decide, fun i _ _ => ?_⟩
      walk_at "ev"
      refine ⟨_, rfl, by decide, by decide, fun j _ _ => ?_⟩
      walk_at "ev"
      refine ⟨sz (by decide), pt_fin hl h _ _ _ _ _ _ _ _ _ ?_ (fun _ => List.mem_cons_self ..) (by simp)⟩
      exact prs_cons pt (prs_cons (prk_of (c1 _) one) (prs_cons (prk_of (c1 _) one) (prs_cons (prk_of (co_neg (c1 _)) mone) (prs_cons (prk_of (c1 _) one) (prs_cons (prk_of (co_neg (c1 _)) mone) (prs_cons (prk_of (by decide) (by decide)) prs_nil))))))
    · refine ⟨sz (by decide), pt_fin hl h _ _ _ _ _ _ _ _ _ ?_ (fun _ => List.mem_cons_self ..) (by simp)⟩
      exact prs_cons pt (prs_cons (prk_of (c1 _) one) (prs_cons (prk_of (by decide) (by decide)) (prs_cons (prk_of (by decide) (by decide)) prs_nil)))
theorem spec__law_holds : ∀ gs R, pp__law_holds gs R → q__law_holds (Ends0 R) (startD 7 gs) := by
  rintro gs R ⟨p, q, rfl, hn, h⟩
  have hn' := hn
  obtain ⟨hc, hb, hl⟩ := hn'
  have eB : B200 = 2 ^ 200 := rfl
  have pB : (2 : Int) ^ 120 + 2 < B200 := by decide
  unfold q__law_holds
  walk_at "ev"
  refine ⟨p, q, rfl, hc, by omega, fun n k h1 => ?_⟩
  walk_at "ev"
  refine ⟨p, q, rfl, hc, by omega, fun n' k' h1' => ?_⟩
  obtain ⟨rfl, rfl⟩ := clos_one h1 h1'
  walk_at "ev"
  refine ⟨_, rfl, .inr (.inr ⟨_, _, rfl⟩), ?_⟩
  walk_at "ev"
  refine ⟨divW (by decide) (by decide), mulS (lt200 (a := B200 - 1) (by omega) (by omega) (by omega)) (by decide), p, q, rfl, ?_⟩
  walk_at "ev"
  have ev : (p / 2 * 2 = p) ↔ p % 2 = 0 := by omega
  simp only [ev]
  by_cases z : p % 2 = 0
  all_goals
    simp only [z, if_true, if_false]
    refine ⟨_, rfl, .inr (.inl ⟨_, rfl⟩), ?_⟩
    walk_at "ev"
    refine ⟨p, q, rfl, hn, fun ds hd hne hl => ?_⟩
    walk_at "ev"
    split
    all_goals
      rename_i big
      first
        | refine ⟨ds, .inl rfl, hne big, hl, fun d hm => ?_⟩
          obtain ⟨x0, y0, rfl, hc0, hb0⟩ := hd d hm
          have hd := prs_cons (prk_of hc0 hb0) prs_nil
          walk_at "ev"
          refine loop_of (fun es ρ => ∃ x3 x4 x5 x6, ρ = [.ja, .da (.tuple [.int p, .int q]), .da (.tuple [.int n, .int k]), x3, x4, x5, x6] ∧ ∀ d ∈ es, Pr d) ?_ ?_ _ _ ⟨_, _, _, _, rfl, hd⟩
        | refine loop_of (fun es ρ => ∃ x3 x4 x5 x6, ρ = [.ja, .da (.tuple [.int p, .int q]), .da (.tuple [.int n, .int k]), x3, x4, x5, x6] ∧ ∀ d ∈ es, Pr d) ?_ ?_ _ _ ⟨_, _, _, _, rfl, hd⟩
      · rintro ρ ⟨x3, x4, x5, x6, rfl, _⟩
        walk_at "ev"
        exact h
      · rintro d es ρ ⟨x3, x4, x5, x6, rfl, hes⟩ ih
        obtain ⟨x, y, rfl, hc2, hb2⟩ := hes d (List.mem_cons_self ..)
        have hes' : ∀ d ∈ es, Pr d := fun d hd => hes d (List.mem_cons_of_mem _ hd)
        walk_at "ev"
        refine ⟨x, y, rfl, hc2, hb2, fun n2 k2 h2 => ?_⟩
        walk_at "ev"
        simp only [eqv2]
        refine ⟨sh2 _ _, sh2 _ _, p, q, x, y, rfl, hc, by omega, hc2, hb2, fun a b a' b' g g' => ?_⟩
        obtain ⟨rfl, rfl⟩ := clos_one g h1
        obtain ⟨rfl, rfl⟩ := clos_one g' h2
        have sw : decide (a = a' ∧ b = b') = decide (a' = a ∧ b' = b) := decide_eq_decide.mpr ⟨fun ⟨u, v⟩ => ⟨u.symm, v.symm⟩, fun ⟨u, v⟩ => ⟨u.symm, v.symm⟩⟩
        rw [sw]
        walk_at "ev"
        refine ⟨_, rfl, .inl ⟨_, rfl⟩, ?_⟩
        walk_at "ev"
        refine ⟨x, y, p, q, rfl, hc2, hb2, hc, by omega, fun c e c' e' g2 g2' => ?_⟩
        obtain ⟨rfl, rfl⟩ := clos_one g2 g'
        obtain ⟨rfl, rfl⟩ := clos_one g2' g
        walk_at "ev"
        refine ⟨_, rfl, .inl ⟨_, rfl⟩, ?_⟩
        walk_at "ev"
        refine ⟨x, y, rfl, hc2, hb2, fun n3 k3 h3 => ?_⟩
        obtain ⟨rfl, rfl⟩ := clos_one h3 g2
        walk_at "ev"
        refine ⟨x, y, rfl, hc2, hb2, fun n4 k4 h4 => ?_⟩
        obtain ⟨rfl, rfl⟩ := clos_one h4 h3
        walk_at "ev"
        refine ⟨_, rfl, .inr (.inr ⟨_, _, rfl⟩), ?_⟩
        walk_at "ev"
        exact ih _ ⟨_, _, _, _, rfl, hes'⟩
theorem len__law_draw : ∀ gs R, pp__law_draw gs R → ∃ ds : List D, gs = .j :: ds.map .d ∧ ds.length = ["many"].length := by
  rintro gs R ⟨many, rfl, _⟩
  exact ⟨[.int many], rfl, rfl⟩
theorem mulL {a b : Int} (h1 : -(2 ^ 64) < a) (h2 : a < 2 ^ 64) : CMulA a b := .inl (.inl ⟨h1, h2⟩)
theorem mulR {a b : Int} (h1 : -(2 ^ 64) < b) (h2 : b < 2 ^ 64) : CMulA a b := .inl (.inr ⟨h1, h2⟩)
theorem spec__law_draw : ∀ (ds : List D) R, pp__law_draw (.j :: ds.map .d) R → ∀ bs, good bs → q__law_draw ⟨fun _ => False, fun r ρ => ∃ d bs', r = .da d ∧ R (.da d) ∧ good bs' ∧ ρ[0]? = some (.ow (bs'.map .int)), fun _ => False, fun _ => False⟩ (.ow (bs.map .int) :: (ds.map .da ++ List.replicate (4 - ds.length - 1) .un)) := by
  rintro ds R ⟨many, hg, h1, hB, h⟩ bs ⟨b0, b1, b2, rfl, g0, g1, g2, g3⟩
  match ds, hg with
  | [_], hg =>
    cases hg
    have dv : CDivW b0 many := divW (by omega) (n400 (lt200 hB (by omega) (Nat.le_refl _)))
    have fin : ∀ x, R (.da (.int (x % many))) := fun x => h _ (Int.emod_nonneg _ (by omega)) (Int.emod_lt_of_pos _ (by omega))
    unfold q__law_draw
    walk_at "ev"
    split
    · exact ⟨by omega, dv, fin _, [_, _, _], ⟨_, _, _, rfl, Int.ediv_nonneg g0 (by omega), g1, g2, by omega⟩, rfl⟩
    · have c0 : 0 ≤ (b1 * 75577 + 613 * (b2 + 1) + 19) % 4294967291 := Int.emod_nonneg _ (by decide)
      have c1 : (b1 * 75577 + 613 * (b2 + 1) + 19) % 4294967291 < 4294967291 := Int.emod_lt_of_pos _ (by decide)
      exact ⟨mulL (by omega) (by omega), mulL (by decide) (by decide), by decide, divW (by decide) (by decide), mulL (by omega) (by omega), by decide, divW (by decide) (by decide), by omega, fin _, [_, _, _], ⟨_, _, _, rfl, g0, c0, c1, by omega⟩, rfl⟩
theorem sq_lt {t : Int} {k : Nat} (h : t.natAbs < 2 ^ k) : (t * t).natAbs < 2 ^ (2 * k) := by
  rw [Int.natAbs_mul, Nat.two_mul, Nat.pow_add]
  exact Nat.mul_lt_mul'' h h
theorem spec__law_bag : ∀ gs R, pp__law_bag gs R → q__law_bag (Ends0 R) (startD 7 gs) := by
  rintro gs R ⟨ns, rfl, hl, h⟩
  unfold q__law_bag
  walk_at "ev"
  refine ⟨⟨by decide, by decide, by decide⟩, by decide, by decide, ?_⟩
  refine range_of (fun lo n ρ => ∃ (t : Int) (x : Sl) (k : Nat), ρ = [.da (.list (ns.map .int)), .da (.int t), x, .un, .un, .un, .un] ∧ 0 < t ∧ t.natAbs < 2 ^ k ∧ 0 < k ∧ k * 2 ^ n ≤ 3200) ?_ ?_ _ _ _ ⟨_, _, 200, rfl, by decide, by decide, by decide, by decide⟩
  · rintro lo ρ ⟨t, x, k, rfl, t0, _, _, _⟩
    walk_at "ev"
    have hl' : (ns.map PyData.int).length ≤ 63 := by rw [List.length_map]; exact hl
    refine ⟨mulL (by decide) (by decide), ?_⟩
    refine loop_of (fun ds ρ => ∃ b0 b1 b2 x4 x5 x6, ρ = [.da (.list (ns.map .int)), .da (.int t), x, .ow [.int b0, .int b1, .int b2], x4, x5, x6] ∧ good [b0, b1, b2] ∧ ∀ d ∈ ds, ∃ i, d = .int i) ?_ ?_ _ _ ⟨0, _, 0, _, _, _, rfl, ⟨_, _, _, rfl, by omega, by omega, by omega, by omega⟩, ?_⟩
    · rintro ρ ⟨b0, b1, b2, x4, x5, x6, rfl, hg, _⟩
      walk_at "ev"
      exact h _ _ _ hg
    · rintro d ds ρ ⟨b0, b1, b2, x4, x5, x6, rfl, ⟨_, _, _, e, g0, g1, g2, g3⟩, hd⟩ ih
      cases e
      obtain ⟨i, rfl⟩ := hd d (List.mem_cons_self ..)
      have hd' : ∀ d ∈ ds, ∃ i, d = .int i := fun d h => hd d (List.mem_cons_of_mem _ h)
      walk_at "ev"
      have c0 : 0 ≤ i % 4294967291 := Int.emod_nonneg _ (by decide)
      have c1 : i % 4294967291 < 4294967291 := Int.emod_lt_of_pos _ (by decide)
      have d0 : ∀ z : Int, 0 ≤ z % 4294967291 := fun z => Int.emod_nonneg _ (by decide)
      have d1 : ∀ z : Int, z % 4294967291 < 4294967291 := fun z => Int.emod_lt_of_pos _ (by decide)
      have m1 : CMulA 2 (i % 4294967291) := mulL (by decide) (by decide)
      have m2 : CMulA b1 (b1 + 2 * (i % 4294967291) + 1) := mulL (by omega) (by omega)
      have m3 : CMulA 3 (i % 4294967291) := mulL (by decide) (by decide)
      have tp : 0 ≤ i % t := Int.emod_nonneg _ (by omega)
      split
      · refine ⟨⟨by decide, by decide, by decide⟩, ?_⟩
        split
        · exact ⟨t0, by decide, m1, m2, m3, by decide, ih _ ⟨_, _, _, _, _, _, rfl, ⟨_, _, _, rfl, tp, d0 _, d1 _, g3⟩, hd'⟩⟩
        · exact ⟨by decide, m1, m2, m3, by decide, ih _ ⟨_, _, _, _, _, _, rfl, ⟨_, _, _, rfl, g0, d0 _, d1 _, g3⟩, hd'⟩⟩
      · exact ⟨by decide, m1, m2, m3, by decide, ih _ ⟨_, _, _, _, _, _, rfl, ⟨_, _, _, rfl, g0, d0 _, d1 _, g3⟩, hd'⟩⟩
    · intro d hd
      obtain ⟨i, _, rfl⟩ := List.mem_map.mp hd
      exact ⟨i, rfl⟩
  · rintro lo n ρ ⟨t, x, k, rfl, t0, h1, h2, h3⟩ ih
    walk_at "ev"
    have q1 : k * 1 ≤ k * 2 ^ n := Nat.mul_le_mul_left _ Nat.one_le_two_pow
    have q2 : k * 2 ^ (n + 1) = 2 * k * 2 ^ n := by rw [Nat.pow_succ, Nat.mul_comm (2 ^ n) 2, ← Nat.mul_assoc, Nat.mul_comm k 2]
    rw [q2, Nat.mul_assoc] at h3
    exact ⟨.inr (wide_mul h1 h1 h2 h2 (by omega)), ih _ ⟨_, _, 2 * k, rfl, Int.mul_pos t0 t0, sq_lt h1, by omega, by rw [Nat.mul_assoc]; exact h3⟩⟩
theorem clos_wit {p q n k r d : Int} (hn : n = p.natAbs) (h2 : 2 ≤ n) (hr : Rr p q = r) (hd : IsInv r n d) (hk : k = if d < r then d else r) : Clos p q n k :=
  ⟨hn, fun z => by omega, fun _ => ⟨d, by rw [hr]; exact hd, by rw [hr]; exact hk⟩⟩
/-- a pair of pairs whose likeness is known -/
def Sure (d : D) : Prop := ∃ p q p' q' b, d = .tuple [.tuple [.int p, .int q], .tuple [.int p', .int q'], .bool b] ∧ Co p q ∧ (p.natAbs : Int) < B200 ∧ Co p' q' ∧ (p'.natAbs : Int) < B200 ∧ ∃ n k n' k', Clos p q n k ∧ Clos p' q' n' k' ∧ decide (n = n' ∧ k = k') = b
theorem clos_a {N : Int} (h : 2 ≤ N) : Clos N 1 N 1 := by
  have e : (N.natAbs : Int) = N := by omega
  refine clos_wit (r := 1) (d := 1) e.symm h ?_ ⟨by decide, by omega, ⟨0, by omega⟩⟩ (by simp)
  unfold Rr
  rw [if_pos (by omega), e]
  exact Int.emod_eq_of_lt (by decide) (by omega)
theorem clos_b {N : Int} (h : 2 ≤ N) : Clos (-N) (N - 1) N 1 := by
  have e : ((-N).natAbs : Int) = N := by omega
  refine clos_wit (r := 1) (d := 1) e.symm h ?_ ⟨by decide, by omega, ⟨0, by omega⟩⟩ (by simp)
  unfold Rr
  rw [if_neg (by omega), e, show -(N - 1) = 1 + N * (-1) by omega, Int.add_mul_emod_self_left]
  exact Int.emod_eq_of_lt (by decide) (by omega)
theorem clos_c {N : Int} (h : 3 ≤ N) : Clos (-N) 1 N (N - 1) := by
  have e : ((-N).natAbs : Int) = N := by omega
  refine clos_wit (r := N - 1) (d := N - 1) e.symm (by omega) ?_ ⟨by omega, by omega, ⟨N - 2, by grind⟩⟩ (by simp)
  unfold Rr
  rw [if_neg (by omega), e, show (-1 : Int) = (N - 1) + N * (-1) by omega, Int.add_mul_emod_self_left]
  exact Int.emod_eq_of_lt (by omega) (by omega)
theorem clos_u {p q : Int} (h : (p.natAbs : Int) < 2) : Clos p q p.natAbs 0 := ⟨rfl, fun _ => rfl, fun z => by omega⟩
theorem spec_law : ∀ ns : List Int, ns.length ≤ 63 → q_law EndL (.da (.list (ns.map .int)) :: List.replicate (11 - 1) .un) := by
  intro ns hl
  unfold q_law
  walk_at "ev"
  refine ⟨ns, rfl, hl, fun b0 b1 b2 hg => ?_⟩
  unfold qJar
  walk_at "ev"
  refine ⟨[b0, b1, b2], hg, rfl, _, rfl, by decide, by decide, fun f _ _ => ?_⟩
  walk_at "ev"
  refine ⟨_, rfl, by decide, by decide, fun m m0 m1 => ?_⟩
  walk_at "ev"
  refine ⟨sz200 (by decide), ?_⟩
  generalize hN : 3 + m = N
  have N0 : 3 ≤ N := by omega
  have N1 : N ≤ 13 := by omega
  have bN : ∀ x : Int, -100 < x → x < 100 → (x.natAbs : Int) < B200 := fun x h1 h2 => Int.lt_trans (show (x.natAbs : Int) < 100 by omega) (by decide)
  have c1 : ∀ x, Co 1 x := fun x => Int.one_gcd
  have cN : Co (-N) (N - 1) := co_neg (by unfold Co; rw [Int.gcd_self_sub_right]; exact co_one)
  have nearN : ∀ p q : Int, Co p q → -100 < p → p < 100 → Near p q := fun p q h h1 h2 => ⟨h, Int.le_trans (show (p.natAbs : Int) ≤ 100 by omega) (by decide), fun z => by omega⟩
  refine loop_of (fun ds ρ => ∃ x0 b x4 x5 x6 x7 x8 x9 x10, ρ = [x0, .ja, .da (.bool b), .da (.int N), x4, x5, x6, x7, x8, x9, x10] ∧ ∀ d ∈ ds, Sure d) ?_ ?_ _ _ ⟨_, _, _, _, _, _, _, _, _, rfl, ?_⟩
  · rintro ρ ⟨x0, b, x4, x5, x6, x7, x8, x9, x10, rfl, _⟩
    walk_at "ev"
    refine ⟨by decide, by decide, ?_⟩
    refine range_of (fun lo n ρ => ∃ x8 x9 x10, ρ = [x0, .ja, .da (.bool b), .da (.int N), x4, x5, x6, x7, x8, x9, x10] ∧ 0 ≤ lo ∧ lo + n ≤ 6) ?_ ?_ _ _ _ ⟨_, _, _, rfl, by decide, by decide⟩
    · rintro lo ρ ⟨x8, x9, x10, rfl, _⟩
      walk_at "ev"
      refine ⟨_, .inr rfl, by simp, by simp, fun d hd => ?_⟩
      have hp : ∃ p q, d = .tuple [.int p, .int q] ∧ Co p q ∧ -100 < p ∧ p < 100 := by
        simp only [List.mem_cons, List.not_mem_nil, or_false] at hd
        rcases hd with rfl | rfl | rfl | rfl | rfl | rfl
        · exact ⟨_, _, rfl, by decide, by decide, by decide⟩
        · exact ⟨_, _, rfl, by decide, by decide, by decide⟩
        · exact ⟨_, _, rfl, by decide, by decide, by decide⟩
        · exact ⟨_, _, rfl, co_one, by omega, by omega⟩
        · exact ⟨_, _, rfl, co_one, by omega, by omega⟩
        · exact ⟨_, _, rfl, c1 _, by decide, by decide⟩
      obtain ⟨p, q, rfl, h1, h2, h3⟩ := hp
      walk_at "ev"
      refine ⟨p, q, rfl, nearN p q h1 h2 h3, ?_⟩
      walk_at "ev"
    · rintro lo n ρ ⟨x8, x9, x10, rfl, l0, l1⟩ ih
      have d2 : CDivW lo 2 := divW (by decide) (by decide)
      have m2 : CMulA (lo / 2) 2 := mulR (by decide) (by decide)
      have m3 : ∀ x, CMulA 16 x := fun x => mulL (by decide) (by decide)
      cases b
      · walk_at "ev"
        refine ⟨d2, m2, m3 _, _, _, rfl, by omega, by omega, by omega, fun w hw => ?_⟩
        walk_at "ev"
        refine ⟨w, rfl, hw, fun p q hc hk hs => ?_⟩
        walk_at "ev"
        refine ⟨p, q, rfl, ⟨hc, by omega, fun _ => hk⟩, ?_⟩
        walk_at "ev"
        exact ih _ ⟨_, _, _, rfl, by omega, by omega⟩
      · walk_at "ev"
        by_cases z : lo = 0
        · rw [if_pos z, if_pos z]
          refine ⟨_, _, rfl, by omega, by omega, by omega, fun w hw => ?_⟩
          walk_at "ev"
          refine ⟨w, rfl, hw, fun p q hc hk hs => ?_⟩
          walk_at "ev"
          refine ⟨p, q, rfl, ⟨hc, by omega, fun _ => hk⟩, ?_⟩
          walk_at "ev"
          exact ih _ ⟨_, _, _, rfl, by omega, by omega⟩
        · rw [if_neg z, if_neg z]
          refine ⟨d2, m2, m3 _, _, _, rfl, by omega, by omega, by omega, fun w hw => ?_⟩
          walk_at "ev"
          refine ⟨w, rfl, hw, fun p q hc hk hs => ?_⟩
          walk_at "ev"
          refine ⟨p, q, rfl, ⟨hc, by omega, fun _ => hk⟩, ?_⟩
          walk_at "ev"
          exact ih _ ⟨_, _, _, rfl, by omega, by omega⟩
  · rintro d ds ρ ⟨x0, b, x4, x5, x6, x7, x8, x9, x10, rfl, hd⟩ ih
    obtain ⟨p, q, p', q', c, rfl, h1, h2, h3, h4, n, k, n', k', g1, g2, g3⟩ := hd d (List.mem_cons_self ..)
    walk_at "ev"
    refine ⟨p, q, p', q', rfl, h1, h2, h3, h4, fun a e a' e' f1 f2 => ?_⟩
    obtain ⟨rfl, rfl⟩ := clos_one f1 g1
    obtain ⟨rfl, rfl⟩ := clos_one f2 g2
    rw [g3]
    walk_at "ev"
    refine ⟨_, rfl, .inl ⟨_, rfl⟩, ?_⟩
    walk_at "ev"
    exact ih _ ⟨_, _, _, _, _, _, _, _, _, rfl, fun d h => hd d (List.mem_cons_of_mem _ h)⟩
  · intro d hd
    have e1 : decide (1 = 2) = false := rfl
    simp only [List.mem_cons, List.not_mem_nil, or_false] at hd
    rcases hd with rfl | rfl | rfl | rfl | rfl | rfl | rfl
    · exact ⟨_, _, _, _, _, rfl, co_one, bN _ (by omega) (by omega), cN, bN _ (by omega) (by omega), _, _, _, _, clos_a (by omega), clos_b (by omega), by simp⟩
    · exact ⟨_, _, _, _, _, rfl, co_one, bN _ (by omega) (by omega), co_one, bN _ (by omega) (by omega), _, _, _, _, clos_a (by omega), clos_a (by omega), by simp; omega⟩
    · exact ⟨_, _, _, _, _, rfl, co_one, bN _ (by omega) (by omega), co_one, bN _ (by omega) (by omega), _, _, _, _, clos_a (by omega), clos_c (by omega), by simp; omega⟩
    · exact ⟨_, _, _, _, _, rfl, by decide, bN _ (by omega) (by omega), co_neg (c1 _), bN _ (by omega) (by omega), _, _, _, _, clos_u (by decide), clos_u (by decide), rfl⟩
    · exact ⟨_, _, _, _, _, rfl, by decide, bN _ (by omega) (by omega), by decide, bN _ (by omega) (by omega), _, _, _, _, clos_u (by decide), clos_u (by decide), rfl⟩
    · exact ⟨_, _, _, _, _, rfl, by decide, bN _ (by omega) (by omega), by decide, bN _ (by omega) (by omega), _, _, _, _, clos_wit (r := 1) (d := 1) rfl (by decide) (by decide) ⟨by decide, by decide, by decide⟩ rfl, clos_wit (r := 1) (d := 1) rfl (by decide) (by decide) ⟨by decide, by decide, by decide⟩ rfl, rfl⟩
    · exact ⟨_, _, _, _, _, rfl, by decide, bN _ (by omega) (by omega), by decide, bN _ (by omega) (by omega), _, _, _, _, clos_wit (r := 2) (d := 3) rfl (by decide) (by decide) ⟨by decide, by decide, by decide⟩ rfl, clos_wit (r := 3) (d := 2) rfl (by decide) (by decide) ⟨by decide, by decide, by decide⟩ rfl, rfl⟩
theorem len__law_bag : ∀ gs R, pp__law_bag gs R → gs.length = 1 := by
  intro gs R h
  unfold pp__law_bag at h
  repeat obtain ⟨_, h⟩ := h
  subst_vars
  rfl
theorem len__law_letter : ∀ gs R, pp__law_letter gs R → gs.length = 2 := by
  intro gs R h
  unfold pp__law_letter at h
  repeat obtain ⟨_, h⟩ := h
  subst_vars
  rfl
theorem len__law_lead : ∀ gs R, pp__law_lead gs R → gs.length = 2 := by
  intro gs R h
  unfold pp__law_lead at h
  repeat obtain ⟨_, h⟩ := h
  subst_vars
  rfl
theorem len__law_letters : ∀ gs R, pp__law_letters gs R → gs.length = 2 := by
  intro gs R h
  unfold pp__law_letters at h
  repeat obtain ⟨_, h⟩ := h
  subst_vars
  rfl
theorem len__law_inverse : ∀ gs R, pp__law_inverse gs R → gs.length = 2 := by
  intro gs R h
  unfold pp__law_inverse at h
  unfold pp_undone_modulo at h
  repeat obtain ⟨_, h⟩ := h
  subst_vars
  rfl
theorem len__law_closing : ∀ gs R, pp__law_closing gs R → gs.length = 1 := by
  intro gs R h
  unfold pp__law_closing at h
  unfold pp_closing at h
  repeat obtain ⟨_, h⟩ := h
  subst_vars
  rfl
theorem len__law_divisor : ∀ gs R, pp__law_divisor gs R → gs.length = 2 := by
  intro gs R h
  unfold pp__law_divisor at h
  repeat obtain ⟨_, h⟩ := h
  subst_vars
  rfl
theorem len__law_partners : ∀ gs R, pp__law_partners gs R → gs.length = 2 := by
  intro gs R h
  unfold pp__law_partners at h
  repeat obtain ⟨_, h⟩ := h
  subst_vars
  rfl
theorem len__law_same : ∀ gs R, pp__law_same gs R → gs.length = 2 := by
  intro gs R h
  unfold pp__law_same at h
  repeat obtain ⟨_, h⟩ := h
  subst_vars
  rfl
theorem len__law_holds : ∀ gs R, pp__law_holds gs R → gs.length = 2 := by
  intro gs R h
  unfold pp__law_holds at h
  repeat obtain ⟨_, h⟩ := h
  subst_vars
  rfl
theorem len__law_pick : ∀ gs R, pp__law_pick gs R → gs.length = 2 := by
  rintro gs R ⟨ds, rfl | rfl, _⟩ <;> rfl
theorem len__law_move : ∀ gs R, pp__law_move gs R → gs.length = 2 := by
  rintro gs R ⟨p, q, ⟨rfl, _⟩ | ⟨rfl, _⟩ | ⟨rfl, _⟩⟩ <;> rfl
end K41

set_option Elab.async false
set_option linter.all false
set_option maxRecDepth 100000
set_option maxHeartbeats 4000000
namespace K41
open PySem PySem.Spec PyProof.Rows L2 Zd
def topS (i : Nat) : Stmt := PySem.Challenge.pw_calledloose_k41_closings.main.body.getD i (.Pass ⟨0, 0, 0, 0⟩)
structure Tx (K : PySem.W.Frag) (mg : Str → Option Value) : Prop where
  m_abs : mg "abs" = none
  m_bool : mg "bool" = none
  m_int : mg "int" = none
  m_isinstance : mg "isinstance" = none
  m_len : mg "len" = none
  m_max : mg "max" = none
  m_min : mg "min" = none
  m_range : mg "range" = none
  m_tuple : mg "tuple" = none
abbrev s__law_bag : Stmt := topS 6
abbrev s__law_inverse : Stmt := topS 14
abbrev s__law_closing : Stmt := topS 15
abbrev s__law_draw : Stmt := topS 7
abbrev s__law_letters : Stmt := topS 13
abbrev s__law_divisor : Stmt := topS 16
abbrev s__law_partners : Stmt := topS 17
abbrev s__law_same : Stmt := topS 18
abbrev s_undone_modulo : Stmt := topS 1
abbrev s_closing : Stmt := topS 2
abbrev s_closing_ropes : Stmt := topS 3
abbrev s__law_pick : Stmt := topS 8
abbrev s_same_closing : Stmt := topS 4
abbrev s__law_holds : Stmt := topS 19
abbrev s__law_move : Stmt := topS 9
abbrev s__law_letter : Stmt := topS 10
abbrev s__law_lead : Stmt := topS 11
abbrev s__law_word : Stmt := topS 12
abbrev s_law : Stmt := topS 20
theorem kw_closing_ropes_t {K : PySem.W.Frag} {f : Addr} {fd : FuncData} (F : FnP K "closing_ropes" s_closing_ropes f fd) : KwOk K fd ["t"] ["t"] [0] :=
  kw_of F fun _ _ _ _ _ _ us hl => match us, hl with | [_], _ => rfl
theorem kw_same_closing_one_other {K : PySem.W.Frag} {f : Addr} {fd : FuncData} (F : FnP K "same_closing" s_same_closing f fd) : KwOk K fd ["one", "other"] ["one", "other"] [0, 1] :=
  kw_of F fun _ _ _ _ _ _ us hl => match us, hl with | [_, _], _ => rfl
section
variable {P : Program} {w : World} {K : PySem.W.Frag} {mg : Str → Option Value} {base : Heap} {J : Jr}
abbrev N__law_bag : List Str := ["script", "top", "lap", "bag", "cell", "size", "small"]
theorem sc__law_bag : FnScope N__law_bag ["script"] (defScope s__law_bag) := ⟨rfl, rfl, rfl, by decide +kernel, rfl, by decide +kernel, by decide +kernel⟩
theorem body__law_bag {f : Addr} (T : Tx K mg) (pn : ∀ i p, J.pin ≠ some (i, p))  (cdv : Value) (A : Around) (outer : List Env) (s : Shared) (H : Hp) (E : XK) (hr : Room 0 (A.deeper (envOfC "_law_bag" (defScope s__law_bag) s.heap.objs.size f cdv))) :
    PSsd J (cxOf CX0 P w K mg base N__law_bag "_law_bag" (defScope s__law_bag) f cdv A outer s H E).nox (defBody s__law_bag) q__law_bag :=
  (pssd_cons (psd_set (i := 1) sc__law_bag.nd rfl (.inl rfl) (pn 1) (pr_bin op_dPow pd_int (pv_ofD pd_int)))
    (pssd_cons (psd_for PassesOwn.never rfl (pit_r1 (by rfl) T.m_range (pl_cons pd_int pl_nil)) (pgd_name (pg_name (i := 2) sc__law_bag.nd rfl (.inl rfl))) (pssd_cons (psd_set (i := 1) sc__law_bag.nd rfl (.inl rfl) (pn 1) (pr_binN op_dMul (pv 1) (pv_var (pv 1))))
    pssd_nil))
    (pssd_cons (psd_set (i := 3) sc__law_bag.nd rfl (.inl rfl) (pn 3) (pr_lst (pl_cons pd_int (pl_cons (pd_of (pr_bin op_dAdd pd_int (pv_of (pr_bin op_dMul pd_int (pv_of (pr_callB cl_len (by rfl) T.m_len (by decide +kernel) (plv_one (pv_var (pv 0))))))))) (pl_cons pd_int pl_nil))) rfl))
    (pssd_cons (psd_for PassesOwn.never rfl (pit_d (pd_var (pv 0))) (pgd_name (pg_name (i := 4) sc__law_bag.nd rfl (.inl rfl))) (pssd_cons (psd_set (i := 5) sc__law_bag.nd rfl (.inl rfl) (pn 5) (pr_callTy cl_int (by rfl) T.m_int (by decide +kernel) (plv_one (pv_var (pv 4)))))
    (pssd_cons (psd_if (pb_w (pwd_and (pb_cmp (op_dEq hr.units) (nomark _) (pd_of (pr_ixN (pv 3) (pv_ofD pd_int) (fun _ _ => rfl))) (pv_ofD pd_int)) (pwd_and1 (pb_cmpN op_dGe (nomark _) (pv 5) (pv_of (pr_bin op_dPow pd_int (pv_ofD pd_int))))))) (pssd_cons (psd_put (pv 3) pd_int (pd_of (pr_bin op_dMod (pd_of (pr_callTy cl_int (by rfl) T.m_int (by decide +kernel) (plv_one (pv_var (pv 5))))) (pv_var (pv 1)))))
    pssd_nil) pssd_nil)
    (pssd_cons (psd_set (i := 6) sc__law_bag.nd rfl (.inl rfl) (pn 6) (pr_bin op_dMod (pd_of (pr_callTy cl_int (by rfl) T.m_int (by decide +kernel) (plv_one (pv_var (pv 5))))) (pv_ofD pd_int)))
    (pssd_cons (psd_put (pv 3) pd_int (pd_of (pr_bin op_dMod (pd_of (pr_callTy cl_int (by rfl) T.m_int (by decide +kernel) (plv_one (pv_of (pr_bin op_dAdd (pd_of (pr_bin op_dAdd (pd_of (pr_bin op_dMul (pd_of (pr_ixN (pv 3) (pv_ofD pd_int) (fun _ _ => rfl))) (pv_of (pr_bin op_dAdd (pd_of (pr_bin op_dAdd (pd_of (pr_ixN (pv 3) (pv_ofD pd_int) (fun _ _ => rfl))) (pv_of (pr_bin op_dMul pd_int (pv_var (pv 6)))))) (pv_ofD pd_int))))) (pv_of (pr_bin op_dMul pd_int (pv_var (pv 6)))))) (pv_ofD pd_int)))))) (pv_ofD pd_int))))
    pssd_nil)))))
    (pssd_cons (psd_ret (pr_var (pv 3)))
    pssd_nil)))))
theorem ok__law_bag {f : Addr} {fd : FuncData} (F : FnP K "_law_bag" s__law_bag f fd) (hx : mg "_law_bag" = some (.ref f)) (T : Tx K mg) (pn : ∀ i p, J.pin ≠ some (i, p))  : CalD P w K mg base J 1 "_law_bag" s__law_bag ["script"] pp__law_bag :=
  defD_ok F hx sc__law_bag (FunD.bindsN F fun _ _ _ _ _ _ us hl => match us, hl with | [_], _ => rfl) len__law_bag (body__law_bag T pn ) spec__law_bag
abbrev N__law_inverse : List Str := ["number", "modulus", "upper", "lower", "first", "second", "lap", "ratio", "rest", "third"]
theorem sc__law_inverse : FnScope N__law_inverse ["number", "modulus"] (defScope s__law_inverse) := ⟨rfl, rfl, rfl, by decide +kernel, rfl, by decide +kernel, by decide +kernel⟩
theorem body__law_inverse {f : Addr} (T : Tx K mg) (pn : ∀ i p, J.pin ≠ some (i, p))  (cdv : Value) (A : Around) (outer : List Env) (s : Shared) (H : Hp) (E : XK) (hr : Room 0 (A.deeper (envOfC "_law_inverse" (defScope s__law_inverse) s.heap.objs.size f cdv))) :
    PSsd J (cxOf CX0 P w K mg base N__law_inverse "_law_inverse" (defScope s__law_inverse) f cdv A outer s H E).nox (defBody s__law_inverse) q__law_inverse :=
  (pssd_cons (psd_set (i := 2) sc__law_inverse.nd rfl (.inl rfl) (pn 2) (pr_var (pv 1)))
    (pssd_cons (psd_set (i := 3) sc__law_inverse.nd rfl (.inl rfl) (pn 3) (pr_bin op_dMod (pd_of (pr_callTy cl_int (by rfl) T.m_int (by decide +kernel) (plv_one (pv_var (pv 0))))) (pv_var (pv 1))))
    (pssd_cons (psd_set (i := 4) sc__law_inverse.nd rfl (.inl rfl) (pn 4) (pr_of pd_int))
    (pssd_cons (psd_set (i := 5) sc__law_inverse.nd rfl (.inl rfl) (pn 5) (pr_of pd_int))
    (pssd_cons (psd_for PassesOwn.never rfl (pit_r1 (by rfl) T.m_range (pl_cons (pd_of (pr_bin op_dAdd (pd_of (pr_bin op_dMul pd_int (pv_ofD (pd_bits (pd_var (pv 1)))))) (pv_ofD pd_int))) pl_nil)) (pgd_name (pg_name (i := 6) sc__law_inverse.nd rfl (.inl rfl))) (pssd_cons (psd_if (pb_cmpN (op_dEq hr.units) (nomark _) (pv 3) (pv_ofD pd_int)) (pssd_cons psd_brk
    pssd_nil) pssd_nil)
    (pssd_cons (psd_set (i := 7) sc__law_inverse.nd rfl (.inl rfl) (pn 7) (pr_binN op_dFdiv (pv 2) (pv_var (pv 3))))
    (pssd_cons (psd_set (i := 8) sc__law_inverse.nd rfl (.inl rfl) (pn 8) (pr_binN op_dSub (pv 2) (pv_of (pr_binN op_dMul (pv 7) (pv_var (pv 3))))))
    (pssd_cons (psd_set (i := 2) sc__law_inverse.nd rfl (.inl rfl) (pn 2) (pr_var (pv 3)))
    (pssd_cons (psd_set (i := 3) sc__law_inverse.nd rfl (.inl rfl) (pn 3) (pr_var (pv 8)))
    (pssd_cons (psd_set (i := 9) sc__law_inverse.nd rfl (.inl rfl) (pn 9) (pr_binN op_dSub (pv 4) (pv_of (pr_binN op_dMul (pv 7) (pv_var (pv 5))))))
    (pssd_cons (psd_set (i := 4) sc__law_inverse.nd rfl (.inl rfl) (pn 4) (pr_var (pv 5)))
    (pssd_cons (psd_set (i := 5) sc__law_inverse.nd rfl (.inl rfl) (pn 5) (pr_var (pv 9)))
    pssd_nil)))))))))
    (pssd_cons (psd_ret (pr_bin op_dMod (pd_of (pr_callTy cl_int (by rfl) T.m_int (by decide +kernel) (plv_one (pv_var (pv 4))))) (pv_var (pv 1))))
    pssd_nil))))))
theorem ok__law_inverse {f : Addr} {fd : FuncData} (F : FnP K "_law_inverse" s__law_inverse f fd) (hx : mg "_law_inverse" = some (.ref f)) (T : Tx K mg) (pn : ∀ i p, J.pin ≠ some (i, p))  : CalD P w K mg base J 1 "_law_inverse" s__law_inverse ["number", "modulus"] pp__law_inverse :=
  defD_ok F hx sc__law_inverse (FunD.bindsN F fun _ _ _ _ _ _ us hl => match us, hl with | [_, _], _ => rfl) len__law_inverse (body__law_inverse T pn ) spec__law_inverse
abbrev N__law_closing : List Str := ["t", "n", "r"]
theorem sc__law_closing : FnScope N__law_closing ["t"] (defScope s__law_closing) := ⟨rfl, rfl, rfl, by decide +kernel, rfl, by decide +kernel, by decide +kernel⟩
theorem body__law_closing {f : Addr} (T : Tx K mg) (pn : ∀ i p, J.pin ≠ some (i, p)) (c__law_inverse : CalD P w K mg base J 1 "_law_inverse" s__law_inverse ["number", "modulus"] pp__law_inverse) (cdv : Value) (A : Around) (outer : List Env) (s : Shared) (H : Hp) (E : XK) (hr : Room 1 (A.deeper (envOfC "_law_closing" (defScope s__law_closing) s.heap.objs.size f cdv))) :
    PSsd J (cxOf CX0 P w K mg base N__law_closing "_law_closing" (defScope s__law_closing) f cdv A outer s H E).nox (defBody s__law_closing) q__law_closing :=
  (pssd_cons (psd_set (i := 1) sc__law_closing.nd rfl (.inl rfl) (pn 1) (pr_callB cl_abs (by rfl) T.m_abs (by decide +kernel) (plv_one (pv_of (pr_ixN (pv 0) (pv_ofD pd_int) (fun _ _ => rfl))))))
    (pssd_cons (psd_if (pb_cmpN op_dLt (nomark _) (pv 1) (pv_ofD pd_int)) (pssd_cons (psd_ret (pr_of (pd_tup (pl_cons (pd_var (pv 1)) (pl_cons pd_int pl_nil)) rfl)))
    pssd_nil) pssd_nil)
    (pssd_cons (psd_set (i := 2) sc__law_closing.nd rfl (.inl rfl) (pn 2) (pr_bin op_dMod (pd_of (pr_callTy cl_int (by rfl) T.m_int (by decide +kernel) (plv_one (pv_of (pr_if (pb_cmp op_dGt (nomark _) (pd_of (pr_ixN (pv 0) (pv_ofD pd_int) (fun _ _ => rfl))) (pv_ofD pd_int)) (pr_ixN (pv 0) (pv_ofD pd_int) (fun _ _ => rfl)) (pr_of (pd_neg (pd_of (pr_ixN (pv 0) (pv_ofD pd_int) (fun _ _ => rfl)))))))))) (pv_var (pv 1))))
    (pssd_cons (psd_ret (pr_of (pd_tup (pl_cons (pd_var (pv 1)) (pl_cons (pd_of (pr_callB (cl_min rfl) (by rfl) T.m_min (by decide +kernel) (plv_cons (pd_var (pv 2)) (plv_one (pv_of (pr_callC c__law_inverse hr (by decide) (by rfl) (paa_n (pv 2) (paa_n (pv 1) paa_nil)))))))) pl_nil)) rfl)))
    pssd_nil))))
theorem ok__law_closing {f : Addr} {fd : FuncData} (F : FnP K "_law_closing" s__law_closing f fd) (hx : mg "_law_closing" = some (.ref f)) (T : Tx K mg) (pn : ∀ i p, J.pin ≠ some (i, p)) (c__law_inverse : CalD P w K mg base J 1 "_law_inverse" s__law_inverse ["number", "modulus"] pp__law_inverse) : CalD P w K mg base J 2 "_law_closing" s__law_closing ["t"] pp__law_closing :=
  defD_ok F hx sc__law_closing (FunD.bindsN F fun _ _ _ _ _ _ us hl => match us, hl with | [_], _ => rfl) len__law_closing (body__law_closing T pn c__law_inverse) spec__law_closing
abbrev N__law_draw : List Str := ["bag", "many", "digit", "mixed"]
theorem sc__law_draw : FnScope N__law_draw ["bag", "many"] (defScope s__law_draw) := ⟨rfl, rfl, rfl, by decide +kernel, rfl, by decide +kernel, by decide +kernel⟩
theorem body__law_draw {f : Addr} (T : Tx K mg) (pn : ∀ i p, i ≠ 0 → J.pin ≠ some (i, p))  (cdv : Value) (A : Around) (outer : List Env) (s : Shared) (H : Hp) (E : XK) (hr : Room 0 (A.deeper (envOfC "_law_draw" (defScope s__law_draw) s.heap.objs.size f cdv))) :
    PSsd J (cxOf CX0 P w K mg base N__law_draw "_law_draw" (defScope s__law_draw) f cdv A outer s H E).nox (defBody s__law_draw) q__law_draw :=
  (pssd_cons (psd_put (pv 0) pd_int (pd_of (pr_bin op_dAdd (pd_of (pr_ixN (pv 0) (pv_ofD pd_int) (fun _ _ => rfl))) (pv_ofD pd_int))))
    (pssd_cons (psd_if (pb_cmp op_dGt (nomark _) (pd_of (pr_ixN (pv 0) (pv_ofD pd_int) (fun _ _ => rfl))) (pv_ofD pd_int)) (pssd_cons (psd_set (i := 2) sc__law_draw.nd rfl (.inl rfl) (fun p => pn 2 p (by decide)) (pr_bin op_dMod (pd_of (pr_callTy cl_int (by rfl) T.m_int (by decide +kernel) (plv_one (pv_of (pr_ixN (pv 0) (pv_ofD pd_int) (fun _ _ => rfl)))))) (pv_var (pv 1))))
    (pssd_cons (psd_put (pv 0) pd_int (pd_of (pr_bin op_dFdiv (pd_of (pr_ixN (pv 0) (pv_ofD pd_int) (fun _ _ => rfl))) (pv_var (pv 1)))))
    (pssd_cons (psd_ret (pr_var (pv 2)))
    pssd_nil))) pssd_nil)
    (pssd_cons (psd_put (pv 0) pd_int (pd_of (pr_bin op_dMod (pd_of (pr_callTy cl_int (by rfl) T.m_int (by decide +kernel) (plv_one (pv_of (pr_bin op_dAdd (pd_of (pr_bin op_dAdd (pd_of (pr_bin op_dMul (pd_of (pr_ixN (pv 0) (pv_ofD pd_int) (fun _ _ => rfl))) (pv_ofD pd_int))) (pv_of (pr_bin op_dMul pd_int (pv_of (pr_ixN (pv 0) (pv_ofD pd_int) (fun _ _ => rfl))))))) (pv_ofD pd_int)))))) (pv_ofD pd_int))))
    (pssd_cons (psd_set (i := 3) sc__law_draw.nd rfl (.inl rfl) (fun p => pn 3 p (by decide)) (pr_bin op_dMod (pd_of (pr_callTy cl_int (by rfl) T.m_int (by decide +kernel) (plv_one (pv_of (pr_bin op_dAdd (pd_of (pr_bin op_dMul (pd_of (pr_ixN (pv 0) (pv_ofD pd_int) (fun _ _ => rfl))) (pv_of (pr_bin op_dAdd (pd_of (pr_bin op_dFdiv (pd_of (pr_ixN (pv 0) (pv_ofD pd_int) (fun _ _ => rfl))) (pv_ofD pd_int))) (pv_ofD pd_int))))) (pv_of (pr_ixN (pv 0) (pv_ofD pd_int) (fun _ _ => rfl)))))))) (pv_ofD pd_int)))
    (pssd_cons (psd_ret (pr_bin op_dMod (pd_of (pr_callTy cl_int (by rfl) T.m_int (by decide +kernel) (plv_one (pv_of (pr_binN op_dFdiv (pv 3) (pv_ofD pd_int)))))) (pv_var (pv 1))))
    pssd_nil)))))
theorem ok__law_draw {f : Addr} {fd : FuncData} (F : FnP K "_law_draw" s__law_draw f fd) (hx : mg "_law_draw" = some (.ref f)) (T : Tx K mg) : CalD P w K mg base (jarI good) 1 "_law_draw" s__law_draw ["bag", "many"] pp__law_draw :=
  openD_ok F hx sc__law_draw (FunD.bindsN F fun _ _ _ _ _ _ us hl => match us, hl with | [_, _], _ => rfl) len__law_draw (fun J pn => body__law_draw T pn) spec__law_draw
abbrev N__law_letters : List Str := ["t", "most", "count", "lap", "p", "q"]
theorem sc__law_letters : FnScope N__law_letters ["t", "most"] (defScope s__law_letters) := ⟨rfl, rfl, rfl, by decide +kernel, rfl, by decide +kernel, by decide +kernel⟩
theorem body__law_letters {f : Addr} (T : Tx K mg) (pn : ∀ i p, J.pin ≠ some (i, p))  (cdv : Value) (A : Around) (outer : List Env) (s : Shared) (H : Hp) (E : XK) (hr : Room 0 (A.deeper (envOfC "_law_letters" (defScope s__law_letters) s.heap.objs.size f cdv))) :
    PSsd J (cxOf CX0 P w K mg base N__law_letters "_law_letters" (defScope s__law_letters) f cdv A outer s H E).nox (defBody s__law_letters) q__law_letters :=
  (pssd_cons (psd_set (i := 2) sc__law_letters.nd rfl (.inl rfl) (pn 2) (pr_of pd_int))
    (pssd_cons (psd_for PassesOwn.never rfl (pit_r1 (by rfl) T.m_range (pl_cons (pd_of (pr_binN op_dAdd (pv 1) (pv_ofD pd_int))) pl_nil)) (pgd_name (pg_name (i := 3) sc__law_letters.nd rfl (.inl rfl))) (pssd_cons (psd_asg (pd_var (pv 0)) (pgd_tup rfl (pgds_cons (pgd_name (pg_name (i := 4) sc__law_letters.nd rfl (.inl rfl))) (pgds_cons (pgd_name (pg_name (i := 5) sc__law_letters.nd rfl (.inl rfl))) pgds_nil))))
    (pssd_cons (psd_if (pb_cmpN (op_dEq hr.units) (nomark _) (pv 0) (pv_ofD (pd_tup (pl_cons pd_int (pl_cons pd_int pl_nil)) rfl))) (pssd_cons (psd_ret (pr_var (pv 2)))
    pssd_nil) pssd_nil)
    (pssd_cons (psd_set (i := 2) sc__law_letters.nd rfl (.inl rfl) (pn 2) (pr_binN op_dAdd (pv 2) (pv_ofD pd_int)))
    (pssd_cons (psd_if (pb_cmpN (op_dEq hr.units) (nomark _) (pv 5) (pv_ofD pd_int)) (pssd_cons (psd_set (i := 0) sc__law_letters.nd rfl (.inl rfl) (pn 0) (pr_of (pd_tup (pl_cons pd_int (pl_cons pd_int pl_nil)) rfl)))
    pssd_nil) (pssd_cons (psd_if (pb_cmpN op_dGt (nomark _) (pv 4) (pv_ofD pd_int)) (pssd_cons (psd_set (i := 0) sc__law_letters.nd rfl (.inl rfl) (pn 0) (pr_of (pd_tup (pl_cons (pd_neg (pd_var (pv 5))) (pl_cons (pd_var (pv 4)) pl_nil)) rfl)))
    pssd_nil) (pssd_cons (psd_if (pb_cmp op_dLe (nomark _) (pd_neg (pd_var (pv 4))) (pv_var (pv 5))) (pssd_cons (psd_set (i := 0) sc__law_letters.nd rfl (.inl rfl) (pn 0) (pr_of (pd_tup (pl_cons (pd_of (pr_binN op_dAdd (pv 5) (pv_var (pv 4)))) (pl_cons (pd_neg (pd_var (pv 4))) pl_nil)) rfl)))
    pssd_nil) (pssd_cons (psd_set (i := 0) sc__law_letters.nd rfl (.inl rfl) (pn 0) (pr_of (pd_tup (pl_cons (pd_var (pv 5)) (pl_cons (pd_neg (pd_of (pr_binN op_dAdd (pv 4) (pv_var (pv 5))))) pl_nil)) rfl)))
    pssd_nil))
    pssd_nil))
    pssd_nil))
    pssd_nil)))))
    (pssd_cons (psd_ret (pr_binN op_dAdd (pv 1) (pv_ofD pd_int)))
    pssd_nil)))
theorem ok__law_letters {f : Addr} {fd : FuncData} (F : FnP K "_law_letters" s__law_letters f fd) (hx : mg "_law_letters" = some (.ref f)) (T : Tx K mg) (pn : ∀ i p, J.pin ≠ some (i, p))  : CalD P w K mg base J 1 "_law_letters" s__law_letters ["t", "most"] pp__law_letters :=
  defD_ok F hx sc__law_letters (FunD.bindsN F fun _ _ _ _ _ _ us hl => match us, hl with | [_, _], _ => rfl) len__law_letters (body__law_letters T pn ) spec__law_letters
abbrev N__law_divisor : List Str := ["one", "other", "lap", "rest"]
theorem sc__law_divisor : FnScope N__law_divisor ["one", "other"] (defScope s__law_divisor) := ⟨rfl, rfl, rfl, by decide +kernel, rfl, by decide +kernel, by decide +kernel⟩
theorem body__law_divisor {f : Addr} (T : Tx K mg) (pn : ∀ i p, J.pin ≠ some (i, p))  (cdv : Value) (A : Around) (outer : List Env) (s : Shared) (H : Hp) (E : XK) (hr : Room 0 (A.deeper (envOfC "_law_divisor" (defScope s__law_divisor) s.heap.objs.size f cdv))) :
    PSsd J (cxOf CX0 P w K mg base N__law_divisor "_law_divisor" (defScope s__law_divisor) f cdv A outer s H E).nox (defBody s__law_divisor) q__law_divisor :=
  (pssd_cons (psd_for PassesOwn.never rfl (pit_r1 (by rfl) T.m_range (pl_cons (pd_of (pr_bin op_dAdd (pd_of (pr_bin op_dMul pd_int (pv_ofD (pd_bits (pd_of (pr_callB (cl_max rfl) (by rfl) T.m_max (by decide +kernel) (plv_cons (pd_var (pv 0)) (plv_one (pv_var (pv 1)))))))))) (pv_ofD pd_int))) pl_nil)) (pgd_name (pg_name (i := 2) sc__law_divisor.nd rfl (.inl rfl))) (pssd_cons (psd_if (pb_cmpN (op_dEq hr.units) (nomark _) (pv 1) (pv_ofD pd_int)) (pssd_cons psd_brk
    pssd_nil) pssd_nil)
    (pssd_cons (psd_set (i := 3) sc__law_divisor.nd rfl (.inl rfl) (pn 3) (pr_bin op_dMod (pd_of (pr_callTy cl_int (by rfl) T.m_int (by decide +kernel) (plv_one (pv_var (pv 0))))) (pv_var (pv 1))))
    (pssd_cons (psd_set (i := 0) sc__law_divisor.nd rfl (.inl rfl) (pn 0) (pr_var (pv 1)))
    (pssd_cons (psd_set (i := 1) sc__law_divisor.nd rfl (.inl rfl) (pn 1) (pr_var (pv 3)))
    pssd_nil)))))
    (pssd_cons (psd_ret (pr_var (pv 0)))
    pssd_nil))
theorem ok__law_divisor {f : Addr} {fd : FuncData} (F : FnP K "_law_divisor" s__law_divisor f fd) (hx : mg "_law_divisor" = some (.ref f)) (T : Tx K mg) (pn : ∀ i p, J.pin ≠ some (i, p))  : CalD P w K mg base J 1 "_law_divisor" s__law_divisor ["one", "other"] pp__law_divisor :=
  defD_ok F hx sc__law_divisor (FunD.bindsN F fun _ _ _ _ _ _ us hl => match us, hl with | [_, _], _ => rfl) len__law_divisor (body__law_divisor T pn ) spec__law_divisor
abbrev N__law_partners : List Str := ["bag", "t", "n", "found", "r", "back", "near", "q", "one"]
theorem sc__law_partners : FnScope N__law_partners ["bag", "t"] (defScope s__law_partners) := ⟨rfl, rfl, rfl, by decide +kernel, rfl, by decide +kernel, by decide +kernel⟩
theorem body__law_partners {f : Addr} (T : Tx K mg) (pn : ∀ i p, J.pin ≠ some (i, p)) (c__law_inverse : CalD P w K mg base J 1 "_law_inverse" s__law_inverse ["number", "modulus"] pp__law_inverse) (c__law_draw : CalD P w K mg base J 1 "_law_draw" s__law_draw ["bag", "many"] pp__law_draw) (c__law_letters : CalD P w K mg base J 1 "_law_letters" s__law_letters ["t", "most"] pp__law_letters) (c__law_divisor : CalD P w K mg base J 1 "_law_divisor" s__law_divisor ["one", "other"] pp__law_divisor) (cdv : Value) (A : Around) (outer : List Env) (s : Shared) (H : Hp) (E : XK) (hr : Room 1 (A.deeper (envOfC "_law_partners" (defScope s__law_partners) s.heap.objs.size f cdv))) :
    PSsd J (cxOf CX0 P w K mg base N__law_partners "_law_partners" (defScope s__law_partners) f cdv A outer s H E).nox (defBody s__law_partners) q__law_partners :=
  (pssd_cons (psd_set (i := 2) sc__law_partners.nd rfl (.inr rfl) (pn 2) (pr_callB cl_abs (by rfl) T.m_abs (by decide +kernel) (plv_one (pv_of (pr_ixN (pv 1) (pv_ofD pd_int) (fun _ _ => rfl))))))
    (pssd_cons (psd_set (i := 3) sc__law_partners.nd rfl (.inl rfl) (pn 3) (pr_lst (pl_cons (pd_var (pv 1)) pl_nil) rfl))
    (pssd_cons (psd_if (pb_cmpN op_dGt (nomark _) (pv 2) (pv_ofD pd_int)) (pssd_cons (psd_set (i := 4) sc__law_partners.nd rfl (.inl rfl) (pn 4) (pr_bin op_dMod (pd_of (pr_callTy cl_int (by rfl) T.m_int (by decide +kernel) (plv_one (pv_of (pr_if (pb_cmp op_dGt (nomark _) (pd_of (pr_ixN (pv 1) (pv_ofD pd_int) (fun _ _ => rfl))) (pv_ofD pd_int)) (pr_ixN (pv 1) (pv_ofD pd_int) (fun _ _ => rfl)) (pr_of (pd_neg (pd_of (pr_ixN (pv 1) (pv_ofD pd_int) (fun _ _ => rfl)))))))))) (pv_var (pv 2))))
    (pssd_cons (psd_set (i := 5) sc__law_partners.nd rfl (.inl rfl) (pn 5) (pr_callC c__law_inverse hr (by decide) (by rfl) (paa_n (pv 4) (paa_n (pv 2) paa_nil))))
    (pssd_cons (psd_set (i := 6) sc__law_partners.nd rfl (.inl rfl) (pn 6) (pr_bin op_dAdd pd_int (pv_of (pr_callC c__law_draw hr (by decide) (by rfl) (paa_n (pv 0) (paa_d (pd_of (pr_binN op_dSub (pv 2) (pv_ofD pd_int))) paa_nil))))))
    (pssd_cons (psd_expr (pr_ext (pv 3) (pr_lst (pl_cons (pd_tup (pl_cons (pd_var (pv 2)) (pl_cons (pd_var (pv 4)) pl_nil)) rfl) (pl_cons (pd_tup (pl_cons (pd_var (pv 2)) (pl_cons (pd_var (pv 5)) pl_nil)) rfl) (pl_cons (pd_tup (pl_cons (pd_neg (pd_var (pv 2))) (pl_cons (pd_of (pr_binN op_dSub (pv 2) (pv_var (pv 4)))) pl_nil)) rfl) (pl_cons (pd_tup (pl_cons (pd_neg (pd_var (pv 2))) (pl_cons (pd_of (pr_binN op_dSub (pv 2) (pv_var (pv 5)))) pl_nil)) rfl) (pl_cons (pd_tup (pl_cons (pd_var (pv 2)) (pl_cons (pd_of (pr_binN op_dAdd (pv 4) (pv_var (pv 2)))) pl_nil)) rfl) (pl_cons (pd_tup (pl_cons (pd_neg (pd_var (pv 2))) (pl_cons (pd_of (pr_bin op_dSub (pd_of (pr_bin op_dMul pd_int (pv_var (pv 2)))) (pv_var (pv 5)))) pl_nil)) rfl) (pl_cons (pd_tup (pl_cons (pd_var (pv 2)) (pl_cons (pd_of (pr_binN op_dSub (pv 2) (pv_var (pv 4)))) pl_nil)) rfl) (pl_cons (pd_tup (pl_cons (pd_neg (pd_var (pv 2))) (pl_cons (pd_var (pv 4)) pl_nil)) rfl) pl_nil)))))))) rfl)))
    (pssd_cons (psd_expr (pr_ext (pv 3) (pr_lc (own := [("q", 7)]) rfl sc__law_partners.nd (pit_d (pd_tup (pl_cons (pd_var (pv 6)) (pl_cons (pd_of (pr_binN op_dAdd (pv 2) (pv_var (pv 6)))) (pl_cons (pd_of (pr_binN op_dSub (pv 2) (pv_ofD pd_int))) (pl_cons pd_int pl_nil)))) rfl)) (blkOk_by (N := N__law_partners) (sc := defScope s__law_partners) (by decide +kernel)) (fun s1 H1 C1 cl1 fp1 => (pgd_name (pg_name (i := 7) sc__law_partners.nd rfl (.inl rfl)))) (fun s1 H1 C1 cl1 fp1 => (ptsd_one (pb_cmp (op_dEq hr.units) (nomark _) (pd_of (pr_callC c__law_divisor hr (by decide) (by rfl) (paa_n (pv 2) (paa_n (pv 7) paa_nil)))) (pv_ofD pd_int)))) (fun s1 H1 C1 cl1 fp1 => (pd_tup (pl_cons (pd_var (pv 2)) (pl_cons (pd_var (pv 7)) pl_nil)) rfl)) (by decide))))
    (pssd_cons (psd_expr (pr_ext (pv 3) (pr_lst (pl_cons (pd_tup (pl_cons (pd_of (pr_binN op_dAdd (pv 2) (pv_ofD pd_int))) (pl_cons (pd_var (pv 2)) pl_nil)) rfl) (pl_cons (pd_tup (pl_cons (pd_of (pr_binN op_dSub (pv 2) (pv_ofD pd_int))) (pl_cons (pd_var (pv 2)) pl_nil)) rfl) (pl_cons (pd_tup (pl_cons (pd_of (pr_bin op_dSub (pd_neg (pd_var (pv 2))) (pv_ofD pd_int))) (pl_cons pd_int pl_nil)) rfl) (pl_cons (pd_tup (pl_cons (pd_of (pr_binN op_dSub (pv 2) (pv_ofD pd_int))) (pl_cons pd_int pl_nil)) rfl) pl_nil)))) rfl)))
    pssd_nil)))))) (pssd_cons (psd_if (pb_cmpN (op_dEq hr.units) (nomark _) (pv 2) (pv_ofD pd_int)) (pssd_cons (psd_expr (pr_ext (pv 3) (pr_lst (pl_cons (pd_tup (pl_cons pd_int (pl_cons pd_int pl_nil)) rfl) (pl_cons (pd_tup (pl_cons pd_int (pl_cons pd_int pl_nil)) rfl) (pl_cons (pd_tup (pl_cons (pd_neg pd_int) (pl_cons pd_int pl_nil)) rfl) (pl_cons (pd_tup (pl_cons pd_int (pl_cons (pd_of (pr_bin op_dAdd pd_int (pv_of (pr_callC c__law_draw hr (by decide) (by rfl) (paa_n (pv 0) (paa_d pd_int paa_nil)))))) pl_nil)) rfl) (pl_cons (pd_tup (pl_cons (pd_neg pd_int) (pl_cons (pd_of (pr_bin op_dAdd pd_int (pv_of (pr_callC c__law_draw hr (by decide) (by rfl) (paa_n (pv 0) (paa_d pd_int paa_nil)))))) pl_nil)) rfl) (pl_cons (pd_tup (pl_cons pd_int (pl_cons pd_int pl_nil)) rfl) pl_nil)))))) rfl)))
    pssd_nil) (pssd_cons (psd_expr (pr_ext (pv 3) (pr_lst (pl_cons (pd_tup (pl_cons pd_int (pl_cons pd_int pl_nil)) rfl) (pl_cons (pd_tup (pl_cons pd_int (pl_cons pd_int pl_nil)) rfl) (pl_cons (pd_tup (pl_cons (pd_neg pd_int) (pl_cons pd_int pl_nil)) rfl) pl_nil))) rfl)))
    pssd_nil))
    pssd_nil))
    (pssd_cons (psd_ret (pr_lc (own := [("one", 8)]) rfl sc__law_partners.nd (pit_d (pd_var (pv 3))) (blkOk_by (N := N__law_partners) (sc := defScope s__law_partners) (by decide +kernel)) (fun s1 H1 C1 cl1 fp1 => (pgd_name (pg_name (i := 8) sc__law_partners.nd rfl (.inl rfl)))) (fun s1 H1 C1 cl1 fp1 => (ptsd_one (pb_cmp op_dLe (nomark _) (pd_of (pr_callC c__law_letters hr (by decide) (by rfl) (paa_n (pv 8) (paa_d pd_int paa_nil)))) (pv_ofD pd_int)))) (fun s1 H1 C1 cl1 fp1 => (pd_var (pv 8))) (by decide)))
    pssd_nil))))
theorem ok__law_partners {f : Addr} {fd : FuncData} (F : FnP K "_law_partners" s__law_partners f fd) (hx : mg "_law_partners" = some (.ref f)) (T : Tx K mg) (pn : ∀ i p, J.pin ≠ some (i, p)) (c__law_inverse : CalD P w K mg base J 1 "_law_inverse" s__law_inverse ["number", "modulus"] pp__law_inverse) (c__law_draw : CalD P w K mg base J 1 "_law_draw" s__law_draw ["bag", "many"] pp__law_draw) (c__law_letters : CalD P w K mg base J 1 "_law_letters" s__law_letters ["t", "most"] pp__law_letters) (c__law_divisor : CalD P w K mg base J 1 "_law_divisor" s__law_divisor ["one", "other"] pp__law_divisor) : CalD P w K mg base J 2 "_law_partners" s__law_partners ["bag", "t"] pp__law_partners :=
  defD_ok F hx sc__law_partners (FunD.bindsN F fun _ _ _ _ _ _ us hl => match us, hl with | [_, _], _ => rfl) len__law_partners (body__law_partners T pn c__law_inverse c__law_draw c__law_letters c__law_divisor) spec__law_partners
abbrev N__law_same : List Str := ["told", "due", "at"]
theorem sc__law_same : FnScope N__law_same ["told", "due"] (defScope s__law_same) := ⟨rfl, rfl, rfl, by decide +kernel, rfl, by decide +kernel, by decide +kernel⟩
theorem body__law_same {f : Addr} (T : Tx K mg) (pn : ∀ i p, J.pin ≠ some (i, p))  (cdv : Value) (A : Around) (outer : List Env) (s : Shared) (H : Hp) (E : XK) (hr : Room 0 (A.deeper (envOfC "_law_same" (defScope s__law_same) s.heap.objs.size f cdv))) :
    PSsd J (cxOf CX0 P w K mg base N__law_same "_law_same" (defScope s__law_same) f cdv A outer s H E).nox (defBody s__law_same) q__law_same :=
  (pssd_cons (psd_if (pb_w (pwd_or (pb_tru (pd_isi (T := "bool") (by rfl) T.m_isinstance (by decide +kernel) (by rfl) T.m_bool (by decide +kernel) (pv_var (pv 1))) (by intro _; rfl)) (pwd_or1 (pb_tru (pd_isi (T := "int") (by rfl) T.m_isinstance (by decide +kernel) (by rfl) T.m_int (by decide +kernel) (pv_var (pv 1))) (by intro _; rfl))))) (pssd_cons (psd_ret (pr_of (pd_and (pd_isi (T := "int") (by rfl) T.m_isinstance (by decide +kernel) (by rfl) T.m_int (by decide +kernel) (pv_var (pv 0))) (pd_and (pd_of (pr_cmp (op_dEq hr.units) (nomark _) (pd_isi (T := "bool") (by rfl) T.m_isinstance (by decide +kernel) (by rfl) T.m_bool (by decide +kernel) (pv_var (pv 0))) (pv_ofD (pd_isi (T := "bool") (by rfl) T.m_isinstance (by decide +kernel) (by rfl) T.m_bool (by decide +kernel) (pv_var (pv 1)))))) (pd_one (pd_of (pr_cmpN (op_dEq hr.units) (nomark _) (pv 0) (pv_var (pv 1)))))))))
    pssd_nil) pssd_nil)
    (pssd_cons (psd_if (pb_w (pwd_or (pb_not (pb_tru (pd_isi (T := "tuple") (by rfl) T.m_isinstance (by decide +kernel) (by rfl) T.m_tuple (by decide +kernel) (pv_var (pv 0))) (by intro _; rfl))) (pwd_or1 (pb_cmp (op_dNe hr.units) (nomark _) (pd_of (pr_callB cl_len (by rfl) T.m_len (by decide +kernel) (plv_one (pv_var (pv 0))))) (pv_of (pr_callB cl_len (by rfl) T.m_len (by decide +kernel) (plv_one (pv_var (pv 1))))))))) (pssd_cons (psd_ret (pr_of pd_bl))
    pssd_nil) pssd_nil)
    (pssd_cons (psd_for PassesOwn.never rfl (pit_r1 (by rfl) T.m_range (pl_cons (pd_of (pr_callB cl_len (by rfl) T.m_len (by decide +kernel) (plv_one (pv_var (pv 1))))) pl_nil)) (pgd_name (pg_name (i := 2) sc__law_same.nd rfl (.inl rfl))) (pssd_cons (psd_if (pb_w (pwd_or (pb_not (pb_tru (pd_isi (T := "int") (by rfl) T.m_isinstance (by decide +kernel) (by rfl) T.m_int (by decide +kernel) (pv_of (pr_ixN (pv 0) (pv_var (pv 2)) (fun _ _ => rfl)))) (by intro _; rfl))) (pwd_or (pb_tru (pd_isi (T := "bool") (by rfl) T.m_isinstance (by decide +kernel) (by rfl) T.m_bool (by decide +kernel) (pv_of (pr_ixN (pv 0) (pv_var (pv 2)) (fun _ _ => rfl)))) (by intro _; rfl)) (pwd_or1 (pb_cmp (op_dNe hr.units) (nomark _) (pd_of (pr_ixN (pv 0) (pv_var (pv 2)) (fun _ _ => rfl))) (pv_of (pr_ixN (pv 1) (pv_var (pv 2)) (fun _ _ => rfl)))))))) (pssd_cons (psd_ret (pr_of pd_bl))
    pssd_nil) pssd_nil)
    pssd_nil))
    (pssd_cons (psd_ret (pr_of pd_bl))
    pssd_nil))))
theorem ok__law_same {f : Addr} {fd : FuncData} (F : FnP K "_law_same" s__law_same f fd) (hx : mg "_law_same" = some (.ref f)) (T : Tx K mg) (pn : ∀ i p, J.pin ≠ some (i, p))  : CalD P w K mg base J 1 "_law_same" s__law_same ["told", "due"] pp__law_same :=
  defD_ok F hx sc__law_same (FunD.bindsN F fun _ _ _ _ _ _ us hl => match us, hl with | [_, _], _ => rfl) len__law_same (body__law_same T pn ) spec__law_same
abbrev N_undone_modulo : List Str := ["r", "n", "one", "other", "part"]
theorem sc_undone_modulo : FnScope N_undone_modulo ["r", "n"] (defScope s_undone_modulo) := ⟨rfl, rfl, rfl, by decide +kernel, rfl, by decide +kernel, by decide +kernel⟩
theorem body_undone_modulo {f : Addr} (T : Tx K mg) (pn : ∀ i p, J.pin ≠ some (i, p))  (cdv : Value) (A : Around) (outer : List Env) (s : Shared) (H : Hp) (E : XK) (hr : Room 0 (A.deeper (envOfC "undone_modulo" (defScope s_undone_modulo) s.heap.objs.size f cdv))) :
    PSsd J (cxOf CX0 P w K mg base N_undone_modulo "undone_modulo" (defScope s_undone_modulo) f cdv A outer s H E).nox (defBody s_undone_modulo) q_undone_modulo :=
  (pssd_cons (psd_par (i := 2) (j := 3) rfl sc_undone_modulo.nd rfl rfl (by decide) rfl rfl (pl_cons (pd_tup (pl_cons (pd_var (pv 1)) (pl_cons pd_int pl_nil)) rfl) (pl_cons (pd_tup (pl_cons (pd_var (pv 0)) (pl_cons pd_int pl_nil)) rfl) pl_nil)) (by rfl))
    (pssd_cons (psd_while PassesOwn.never (pb_cmp (op_dNe hr.units) (nomark _) (pd_of (pr_ixN (pv 3) (pv_ofD pd_int) (fun _ _ => rfl))) (pv_ofD pd_int)) (pssd_cons (psd_set (i := 4) sc_undone_modulo.nd rfl (.inl rfl) (pn 4) (pr_bin op_dFdiv (pd_of (pr_ixN (pv 2) (pv_ofD pd_int) (fun _ _ => rfl))) (pv_of (pr_ixN (pv 3) (pv_ofD pd_int) (fun _ _ => rfl)))))
    (pssd_cons (psd_par (i := 2) (j := 3) rfl sc_undone_modulo.nd rfl rfl (by decide) rfl rfl (pl_cons (pd_var (pv 3)) (pl_cons (pd_tup (pl_cons (pd_of (pr_bin op_dSub (pd_of (pr_ixN (pv 2) (pv_ofD pd_int) (fun _ _ => rfl))) (pv_of (pr_binN op_dMul (pv 4) (pv_of (pr_ixN (pv 3) (pv_ofD pd_int) (fun _ _ => rfl))))))) (pl_cons (pd_of (pr_bin op_dSub (pd_of (pr_ixN (pv 2) (pv_ofD pd_int) (fun _ _ => rfl))) (pv_of (pr_binN op_dMul (pv 4) (pv_of (pr_ixN (pv 3) (pv_ofD pd_int) (fun _ _ => rfl))))))) pl_nil)) rfl) pl_nil)) (by rfl))
    pssd_nil)))
    (pssd_cons (psd_ret (pr_bin op_dMod (pd_of (pr_ixN (pv 3) (pv_ofD pd_int) (fun _ _ => rfl))) (pv_var (pv 1))))
    pssd_nil)))
theorem ok_undone_modulo {f : Addr} {fd : FuncData} (F : FnP K "undone_modulo" s_undone_modulo f fd) (hx : mg "undone_modulo" = some (.ref f)) (T : Tx K mg) (pn : ∀ i p, J.pin ≠ some (i, p))  : CalD P w K mg base J 1 "undone_modulo" s_undone_modulo ["r", "n"] pp_undone_modulo :=
  defD_ok F hx sc_undone_modulo (FunD.bindsN F fun _ _ _ _ _ _ us hl => match us, hl with | [_, _], _ => rfl) len_undone_modulo (body_undone_modulo T pn ) spec_undone_modulo
abbrev N_closing : List Str := ["t", "p", "q", "n", "r"]
theorem sc_closing : FnScope N_closing ["t"] (defScope s_closing) := ⟨rfl, rfl, rfl, by decide +kernel, rfl, by decide +kernel, by decide +kernel⟩
theorem body_closing {f : Addr} (T : Tx K mg) (pn : ∀ i p, J.pin ≠ some (i, p)) (c_undone_modulo : CalD P w K mg base J 1 "undone_modulo" s_undone_modulo ["r", "n"] pp_undone_modulo) (cdv : Value) (A : Around) (outer : List Env) (s : Shared) (H : Hp) (E : XK) (hr : Room 1 (A.deeper (envOfC "closing" (defScope s_closing) s.heap.objs.size f cdv))) :
    PSsd J (cxOf CX0 P w K mg base N_closing "closing" (defScope s_closing) f cdv A outer s H E).nox (defBody s_closing) q_closing :=
  (pssd_cons (psd_asg (pd_var (pv 0)) (pgd_tup rfl (pgds_cons (pgd_name (pg_name (i := 1) sc_closing.nd rfl (.inl rfl))) (pgds_cons (pgd_name (pg_name (i := 2) sc_closing.nd rfl (.inl rfl))) pgds_nil))))
    (pssd_cons (psd_set (i := 3) sc_closing.nd rfl (.inl rfl) (pn 3) (pr_callB cl_abs (by rfl) T.m_abs (by decide +kernel) (plv_one (pv_var (pv 1)))))
    (pssd_cons (psd_if (pb_cmpN op_dLt (nomark _) (pv 3) (pv_ofD pd_int)) (pssd_cons (psd_ret (pr_of (pd_tup (pl_cons (pd_var (pv 3)) (pl_cons pd_int pl_nil)) rfl)))
    pssd_nil) pssd_nil)
    (pssd_cons (psd_set (i := 4) sc_closing.nd rfl (.inl rfl) (pn 4) (pr_bin op_dMod (pd_of (pr_if (pb_cmpN op_dGt (nomark _) (pv 1) (pv_ofD pd_int)) (pr_var (pv 2)) (pr_of (pd_neg (pd_var (pv 2)))))) (pv_var (pv 3))))
    (pssd_cons (psd_ret (pr_of (pd_tup (pl_cons (pd_var (pv 3)) (pl_cons (pd_of (pr_callB (cl_min rfl) (by rfl) T.m_min (by decide +kernel) (plv_cons (pd_var (pv 4)) (plv_one (pv_of (pr_callC c_undone_modulo hr (by decide) (by rfl) (paa_n (pv 4) (paa_n (pv 3) paa_nil)))))))) pl_nil)) rfl)))
    pssd_nil)))))
theorem ok_closing {f : Addr} {fd : FuncData} (F : FnP K "closing" s_closing f fd) (hx : mg "closing" = some (.ref f)) (T : Tx K mg) (pn : ∀ i p, J.pin ≠ some (i, p)) (c_undone_modulo : CalD P w K mg base J 1 "undone_modulo" s_undone_modulo ["r", "n"] pp_undone_modulo) : CalD P w K mg base J 2 "closing" s_closing ["t"] pp_closing :=
  defD_ok F hx sc_closing (FunD.bindsN F fun _ _ _ _ _ _ us hl => match us, hl with | [_], _ => rfl) len_closing (body_closing T pn c_undone_modulo) spec_closing
abbrev N_closing_ropes : List Str := ["t"]
theorem sc_closing_ropes : FnScope N_closing_ropes ["t"] (defScope s_closing_ropes) := ⟨rfl, rfl, rfl, by decide +kernel, rfl, by decide +kernel, by decide +kernel⟩
theorem body_closing_ropes {f : Addr} (T : Tx K mg) (pn : ∀ i p, J.pin ≠ some (i, p))  (cdv : Value) (A : Around) (outer : List Env) (s : Shared) (H : Hp) (E : XK) (hr : Room 0 (A.deeper (envOfC "closing_ropes" (defScope s_closing_ropes) s.heap.objs.size f cdv))) :
    PSsd J (cxOf CX0 P w K mg base N_closing_ropes "closing_ropes" (defScope s_closing_ropes) f cdv A outer s H E).nox (defBody s_closing_ropes) q_closing_ropes :=
  (pssd_cons (psd_ret (pr_if (pb_cmp (op_dEq hr.units) (nomark _) (pd_of (pr_bin op_dMod (pd_of (pr_ixN (pv 0) (pv_ofD pd_int) (fun _ _ => rfl))) (pv_ofD pd_int))) (pv_ofD pd_int)) (pr_of pd_int) (pr_of pd_int)))
    pssd_nil)
theorem ok_closing_ropes {f : Addr} {fd : FuncData} (F : FnP K "closing_ropes" s_closing_ropes f fd) (hx : mg "closing_ropes" = some (.ref f)) (T : Tx K mg) (pn : ∀ i p, J.pin ≠ some (i, p))  : CalD P w K mg base J 1 "closing_ropes" s_closing_ropes ["t"] pp_closing_ropes :=
  defD_ok F hx sc_closing_ropes (FunD.bindsN F fun _ _ _ _ _ _ us hl => match us, hl with | [_], _ => rfl) len_closing_ropes (body_closing_ropes T pn ) spec_closing_ropes
abbrev N__law_pick : List Str := ["bag", "things"]
theorem sc__law_pick : FnScope N__law_pick ["bag", "things"] (defScope s__law_pick) := ⟨rfl, rfl, rfl, by decide +kernel, rfl, by decide +kernel, by decide +kernel⟩
theorem body__law_pick {f : Addr} (T : Tx K mg) (pn : ∀ i p, J.pin ≠ some (i, p)) (c__law_draw : CalD P w K mg base J 1 "_law_draw" s__law_draw ["bag", "many"] pp__law_draw) (cdv : Value) (A : Around) (outer : List Env) (s : Shared) (H : Hp) (E : XK) (hr : Room 1 (A.deeper (envOfC "_law_pick" (defScope s__law_pick) s.heap.objs.size f cdv))) :
    PSsd J (cxOf CX0 P w K mg base N__law_pick "_law_pick" (defScope s__law_pick) f cdv A outer s H E).nox (defBody s__law_pick) q__law_pick :=
  (pssd_cons (psd_ret (pr_ixN (pv 1) (pv_of (pr_callC c__law_draw hr (by decide) (by rfl) (paa_n (pv 0) (paa_d (pd_of (pr_callB cl_len (by rfl) T.m_len (by decide +kernel) (plv_one (pv_var (pv 1))))) paa_nil)))) (fun _ _ => rfl)))
    pssd_nil)
theorem ok__law_pick {f : Addr} {fd : FuncData} (F : FnP K "_law_pick" s__law_pick f fd) (hx : mg "_law_pick" = some (.ref f)) (T : Tx K mg) (pn : ∀ i p, J.pin ≠ some (i, p)) (c__law_draw : CalD P w K mg base J 1 "_law_draw" s__law_draw ["bag", "many"] pp__law_draw) : CalD P w K mg base J 2 "_law_pick" s__law_pick ["bag", "things"] pp__law_pick :=
  defD_ok F hx sc__law_pick (FunD.bindsN F fun _ _ _ _ _ _ us hl => match us, hl with | [_, _], _ => rfl) len__law_pick (body__law_pick T pn c__law_draw) spec__law_pick
abbrev N_same_closing : List Str := ["one", "other"]
theorem sc_same_closing : FnScope N_same_closing ["one", "other"] (defScope s_same_closing) := ⟨rfl, rfl, rfl, by decide +kernel, rfl, by decide +kernel, by decide +kernel⟩
theorem body_same_closing {f : Addr} (T : Tx K mg) (pn : ∀ i p, J.pin ≠ some (i, p)) (c_closing : CalD P w K mg base J 2 "closing" s_closing ["t"] pp_closing) (cdv : Value) (A : Around) (outer : List Env) (s : Shared) (H : Hp) (E : XK) (hr : Room 2 (A.deeper (envOfC "same_closing" (defScope s_same_closing) s.heap.objs.size f cdv))) :
    PSsd J (cxOf CX0 P w K mg base N_same_closing "same_closing" (defScope s_same_closing) f cdv A outer s H E).nox (defBody s_same_closing) q_same_closing :=
  (pssd_cons (psd_ret (pr_cmp (op_dEq hr.units) (nomark _) (pd_of (pr_callC c_closing hr (by decide) (by rfl) (paa_n (pv 0) paa_nil))) (pv_of (pr_callC c_closing hr (by decide) (by rfl) (paa_n (pv 1) paa_nil)))))
    pssd_nil)
theorem ok_same_closing {f : Addr} {fd : FuncData} (F : FnP K "same_closing" s_same_closing f fd) (hx : mg "same_closing" = some (.ref f)) (T : Tx K mg) (pn : ∀ i p, J.pin ≠ some (i, p)) (c_closing : CalD P w K mg base J 2 "closing" s_closing ["t"] pp_closing) : CalD P w K mg base J 3 "same_closing" s_same_closing ["one", "other"] pp_same_closing :=
  defD_ok F hx sc_same_closing (FunD.bindsN F fun _ _ _ _ _ _ us hl => match us, hl with | [_, _], _ => rfl) len_same_closing (body_same_closing T pn c_closing) spec_same_closing
abbrev N__law_holds : List Str := ["bag", "t", "due", "even", "others", "other", "like"]
theorem sc__law_holds : FnScope N__law_holds ["bag", "t"] (defScope s__law_holds) := ⟨rfl, rfl, rfl, by decide +kernel, rfl, by decide +kernel, by decide +kernel⟩
theorem body__law_holds {f : Addr} (T : Tx K mg) (pn : ∀ i p, J.pin ≠ some (i, p)) (c__law_closing : CalD P w K mg base J 2 "_law_closing" s__law_closing ["t"] pp__law_closing) (c__law_partners : CalD P w K mg base J 2 "_law_partners" s__law_partners ["bag", "t"] pp__law_partners) (c__law_same : CalD P w K mg base J 1 "_law_same" s__law_same ["told", "due"] pp__law_same) (c_closing : CalD P w K mg base J 2 "closing" s_closing ["t"] pp_closing) (c_closing_ropes : CalD P w K mg base J 1 "closing_ropes" s_closing_ropes ["t"] pp_closing_ropes) (c__law_pick : CalD P w K mg base J 2 "_law_pick" s__law_pick ["bag", "things"] pp__law_pick) (c_same_closing : CalD P w K mg base J 3 "same_closing" s_same_closing ["one", "other"] pp_same_closing) (cdv : Value) (A : Around) (outer : List Env) (s : Shared) (H : Hp) (E : XK) (hr : Room 3 (A.deeper (envOfC "_law_holds" (defScope s__law_holds) s.heap.objs.size f cdv))) :
    PSsd J (cxOf CX0 P w K mg base N__law_holds "_law_holds" (defScope s__law_holds) f cdv A outer s H E).nox (defBody s__law_holds) q__law_holds :=
  (pssd_cons (psd_set (i := 2) sc__law_holds.nd rfl (.inl rfl) (pn 2) (pr_callC c__law_closing hr (by decide) (by rfl) (paa_n (pv 1) paa_nil)))
    (pssd_cons (psd_if (pb_not (pb_tru (pd_of (pr_callC c__law_same hr (by decide) (by rfl) (paa_d (pd_of (pr_callC c_closing hr (by decide) (by rfl) (paa_n (pv 1) paa_nil))) (paa_n (pv 2) paa_nil)))) (by intro _; rfl))) (pssd_cons (psd_ret (pr_of pd_bl))
    pssd_nil) pssd_nil)
    (pssd_cons (psd_set (i := 3) sc__law_holds.nd rfl (.inl rfl) (pn 3) (pr_cmp (op_dEq hr.units) (nomark _) (pd_of (pr_bin op_dMul (pd_of (pr_bin op_dFdiv (pd_of (pr_ixN (pv 1) (pv_ofD pd_int) (fun _ _ => rfl))) (pv_ofD pd_int))) (pv_ofD pd_int))) (pv_of (pr_ixN (pv 1) (pv_ofD pd_int) (fun _ _ => rfl)))))
    (pssd_cons (psd_if (pb_not (pb_tru (pd_of (pr_callC c__law_same hr (by decide) (by rfl) (paa_d (pd_of (pr_callKC (ks := ["t"]) (idx := [0]) c_closing_ropes hr (by decide) (by rfl) (fun fd f G => kw_closing_ropes_t G) (pka_n (pv 1) pka_nil) (by decide) rfl)) (paa_d (pd_of (pr_if (pb_tru (pd_var (pv 3)) (by intro _; rfl)) (pr_of pd_int) (pr_of pd_int))) paa_nil)))) (by intro _; rfl))) (pssd_cons (psd_ret (pr_of pd_bl))
    pssd_nil) pssd_nil)
    (pssd_cons (psd_set (i := 4) sc__law_holds.nd rfl (.inl rfl) (pn 4) (pr_callC c__law_partners hr (by decide) (by rfl) (paa_n (pv 0) (paa_n (pv 1) paa_nil))))
    (pssd_cons (psd_if (pb_cmp op_dGt (nomark _) (pd_of (pr_callB cl_abs (by rfl) T.m_abs (by decide +kernel) (plv_one (pv_of (pr_ixN (pv 1) (pv_ofD pd_int) (fun _ _ => rfl)))))) (pv_ofD pd_int)) (pssd_cons (psd_set (i := 4) sc__law_holds.nd rfl (.inl rfl) (pn 4) (pr_lst (pl_cons (pd_of (pr_callC c__law_pick hr (by decide) (by rfl) (paa_n (pv 0) (paa_n (pv 4) paa_nil)))) pl_nil) rfl))
    pssd_nil) pssd_nil)
    (pssd_cons (psd_for PassesOwn.never rfl (pit_d (pd_var (pv 4))) (pgd_name (pg_name (i := 5) sc__law_holds.nd rfl (.inl rfl))) (pssd_cons (psd_set (i := 6) sc__law_holds.nd rfl (.inl rfl) (pn 6) (pr_cmp (op_dEq hr.units) (nomark _) (pd_of (pr_callC c__law_closing hr (by decide) (by rfl) (paa_n (pv 5) paa_nil))) (pv_var (pv 2))))
    (pssd_cons (psd_if (pb_w (pwd_or (pb_not (pb_tru (pd_of (pr_callC c__law_same hr (by decide) (by rfl) (paa_d (pd_of (pr_callC c_same_closing hr (by decide) (by rfl) (paa_n (pv 1) (paa_n (pv 5) paa_nil)))) (paa_n (pv 6) paa_nil)))) (by intro _; rfl))) (pwd_or1 (pb_not (pb_tru (pd_of (pr_callC c__law_same hr (by decide) (by rfl) (paa_d (pd_of (pr_callKC (ks := ["one", "other"]) (idx := [0, 1]) c_same_closing hr (by decide) (by rfl) (fun fd f G => kw_same_closing_one_other G) (pka_n (pv 5) (pka_n (pv 1) pka_nil)) (by decide) rfl)) (paa_n (pv 6) paa_nil)))) (by intro _; rfl)))))) (pssd_cons (psd_ret (pr_of pd_bl))
    pssd_nil) pssd_nil)
    (pssd_cons (psd_if (pb_not (pb_tru (pd_of (pr_callC c__law_same hr (by decide) (by rfl) (paa_d (pd_of (pr_callC c_closing hr (by decide) (by rfl) (paa_n (pv 5) paa_nil))) (paa_d (pd_of (pr_callC c__law_closing hr (by decide) (by rfl) (paa_n (pv 5) paa_nil))) paa_nil)))) (by intro _; rfl))) (pssd_cons (psd_ret (pr_of pd_bl))
    pssd_nil) pssd_nil)
    pssd_nil))))
    (pssd_cons (psd_ret (pr_of pd_bl))
    pssd_nil))))))))
theorem ok__law_holds {f : Addr} {fd : FuncData} (F : FnP K "_law_holds" s__law_holds f fd) (hx : mg "_law_holds" = some (.ref f)) (T : Tx K mg) (pn : ∀ i p, J.pin ≠ some (i, p)) (c__law_closing : CalD P w K mg base J 2 "_law_closing" s__law_closing ["t"] pp__law_closing) (c__law_partners : CalD P w K mg base J 2 "_law_partners" s__law_partners ["bag", "t"] pp__law_partners) (c__law_same : CalD P w K mg base J 1 "_law_same" s__law_same ["told", "due"] pp__law_same) (c_closing : CalD P w K mg base J 2 "closing" s_closing ["t"] pp_closing) (c_closing_ropes : CalD P w K mg base J 1 "closing_ropes" s_closing_ropes ["t"] pp_closing_ropes) (c__law_pick : CalD P w K mg base J 2 "_law_pick" s__law_pick ["bag", "things"] pp__law_pick) (c_same_closing : CalD P w K mg base J 3 "same_closing" s_same_closing ["one", "other"] pp_same_closing) : CalD P w K mg base J 4 "_law_holds" s__law_holds ["bag", "t"] pp__law_holds :=
  defD_ok F hx sc__law_holds (FunD.bindsN F fun _ _ _ _ _ _ us hl => match us, hl with | [_, _], _ => rfl) len__law_holds (body__law_holds T pn c__law_closing c__law_partners c__law_same c_closing c_closing_ropes c__law_pick c_same_closing) spec__law_holds
abbrev N__law_move : List Str := ["t", "move", "p", "q"]
theorem sc__law_move : FnScope N__law_move ["t", "move"] (defScope s__law_move) := ⟨rfl, rfl, rfl, by decide +kernel, rfl, by decide +kernel, by decide +kernel⟩
theorem body__law_move {f : Addr} (T : Tx K mg) (pn : ∀ i p, J.pin ≠ some (i, p))  (cdv : Value) (A : Around) (outer : List Env) (s : Shared) (H : Hp) (E : XK) (hr : Room 0 (A.deeper (envOfC "_law_move" (defScope s__law_move) s.heap.objs.size f cdv))) :
    PSsd J (cxOf CX0 P w K mg base N__law_move "_law_move" (defScope s__law_move) f cdv A outer s H E).nox (defBody s__law_move) q__law_move :=
  (pssd_cons (psd_asg (pd_var (pv 0)) (pgd_tup rfl (pgds_cons (pgd_name (pg_name (i := 2) sc__law_move.nd rfl (.inl rfl))) (pgds_cons (pgd_name (pg_name (i := 3) sc__law_move.nd rfl (.inl rfl))) pgds_nil))))
    (pssd_cons (psd_if (pb_cmpN (op_dEq hr.units) (nomark _) (pv 1) (pv_ofD pd_str)) (pssd_cons (psd_ret (pr_if (pb_cmpN op_dGt (nomark _) (pv 3) (pv_ofD pd_int)) (pr_of (pd_tup (pl_cons (pd_of (pr_binN op_dAdd (pv 2) (pv_var (pv 3)))) (pl_cons (pd_var (pv 3)) pl_nil)) rfl)) (pr_of (pd_tup (pl_cons pd_int (pl_cons pd_int pl_nil)) rfl))))
    pssd_nil) pssd_nil)
    (pssd_cons (psd_if (pb_cmpN (op_dEq hr.units) (nomark _) (pv 1) (pv_ofD pd_str)) (pssd_cons (psd_ret (pr_if (pb_cmpN op_dGt (nomark _) (pv 3) (pv_ofD pd_int)) (pr_of (pd_tup (pl_cons (pd_of (pr_binN op_dSub (pv 2) (pv_var (pv 3)))) (pl_cons (pd_var (pv 3)) pl_nil)) rfl)) (pr_of (pd_tup (pl_cons pd_int (pl_cons pd_int pl_nil)) rfl))))
    pssd_nil) pssd_nil)
    (pssd_cons (psd_if (pb_cmpN (op_dEq hr.units) (nomark _) (pv 2) (pv_ofD pd_int)) (pssd_cons (psd_ret (pr_of (pd_tup (pl_cons pd_int (pl_cons pd_int pl_nil)) rfl)))
    pssd_nil) pssd_nil)
    (pssd_cons (psd_ret (pr_if (pb_cmpN op_dGt (nomark _) (pv 2) (pv_ofD pd_int)) (pr_of (pd_tup (pl_cons (pd_neg (pd_var (pv 3))) (pl_cons (pd_var (pv 2)) pl_nil)) rfl)) (pr_of (pd_tup (pl_cons (pd_var (pv 3)) (pl_cons (pd_neg (pd_var (pv 2))) pl_nil)) rfl))))
    pssd_nil)))))
theorem ok__law_move {f : Addr} {fd : FuncData} (F : FnP K "_law_move" s__law_move f fd) (hx : mg "_law_move" = some (.ref f)) (T : Tx K mg) (pn : ∀ i p, J.pin ≠ some (i, p))  : CalD P w K mg base J 1 "_law_move" s__law_move ["t", "move"] pp__law_move :=
  defD_ok F hx sc__law_move (FunD.bindsN F fun _ _ _ _ _ _ us hl => match us, hl with | [_, _], _ => rfl) len__law_move (body__law_move T pn ) spec__law_move
abbrev N__law_letter : List Str := ["t", "letter"]
theorem sc__law_letter : FnScope N__law_letter ["t", "letter"] (defScope s__law_letter) := ⟨rfl, rfl, rfl, by decide +kernel, rfl, by decide +kernel, by decide +kernel⟩
theorem body__law_letter {f : Addr} (T : Tx K mg) (pn : ∀ i p, J.pin ≠ some (i, p)) (c__law_move : CalD P w K mg base J 1 "_law_move" s__law_move ["t", "move"] pp__law_move) (cdv : Value) (A : Around) (outer : List Env) (s : Shared) (H : Hp) (E : XK) (hr : Room 1 (A.deeper (envOfC "_law_letter" (defScope s__law_letter) s.heap.objs.size f cdv))) :
    PSsd J (cxOf CX0 P w K mg base N__law_letter "_law_letter" (defScope s__law_letter) f cdv A outer s H E).nox (defBody s__law_letter) q__law_letter :=
  (pssd_cons (psd_if (pb_cmpN (op_dEq hr.units) (nomark _) (pv 1) (pv_ofD pd_str)) (pssd_cons (psd_ret (pr_callC c__law_move hr (by decide) (by rfl) (paa_n (pv 0) (paa_d pd_str paa_nil))))
    pssd_nil) pssd_nil)
    (pssd_cons (psd_if (pb_cmpN (op_dEq hr.units) (nomark _) (pv 1) (pv_ofD pd_str)) (pssd_cons (psd_ret (pr_callC c__law_move hr (by decide) (by rfl) (paa_d (pd_of (pr_callC c__law_move hr (by decide) (by rfl) (paa_n (pv 0) (paa_d pd_str paa_nil)))) (paa_d pd_str paa_nil))))
    pssd_nil) pssd_nil)
    (pssd_cons (psd_ret (pr_callC c__law_move hr (by decide) (by rfl) (paa_d (pd_of (pr_callC c__law_move hr (by decide) (by rfl) (paa_n (pv 0) (paa_d pd_str paa_nil)))) (paa_d pd_str paa_nil))))
    pssd_nil)))
theorem ok__law_letter {f : Addr} {fd : FuncData} (F : FnP K "_law_letter" s__law_letter f fd) (hx : mg "_law_letter" = some (.ref f)) (T : Tx K mg) (pn : ∀ i p, J.pin ≠ some (i, p)) (c__law_move : CalD P w K mg base J 1 "_law_move" s__law_move ["t", "move"] pp__law_move) : CalD P w K mg base J 2 "_law_letter" s__law_letter ["t", "letter"] pp__law_letter :=
  defD_ok F hx sc__law_letter (FunD.bindsN F fun _ _ _ _ _ _ us hl => match us, hl with | [_, _], _ => rfl) len__law_letter (body__law_letter T pn c__law_move) spec__law_letter
abbrev N__law_lead : List Str := ["t", "word", "letter"]
theorem sc__law_lead : FnScope N__law_lead ["t", "word"] (defScope s__law_lead) := ⟨rfl, rfl, rfl, by decide +kernel, rfl, by decide +kernel, by decide +kernel⟩
theorem body__law_lead {f : Addr} (T : Tx K mg) (pn : ∀ i p, J.pin ≠ some (i, p)) (c__law_letter : CalD P w K mg base J 2 "_law_letter" s__law_letter ["t", "letter"] pp__law_letter) (cdv : Value) (A : Around) (outer : List Env) (s : Shared) (H : Hp) (E : XK) (hr : Room 2 (A.deeper (envOfC "_law_lead" (defScope s__law_lead) s.heap.objs.size f cdv))) :
    PSsd J (cxOf CX0 P w K mg base N__law_lead "_law_lead" (defScope s__law_lead) f cdv A outer s H E).nox (defBody s__law_lead) q__law_lead :=
  (pssd_cons (psd_for PassesOwn.never rfl (pit_d (pd_var (pv 1))) (pgd_name (pg_name (i := 2) sc__law_lead.nd rfl (.inl rfl))) (pssd_cons (psd_set (i := 0) sc__law_lead.nd rfl (.inl rfl) (pn 0) (pr_callC c__law_letter hr (by decide) (by rfl) (paa_n (pv 0) (paa_n (pv 2) paa_nil))))
    pssd_nil))
    (pssd_cons (psd_ret (pr_var (pv 0)))
    pssd_nil))
theorem ok__law_lead {f : Addr} {fd : FuncData} (F : FnP K "_law_lead" s__law_lead f fd) (hx : mg "_law_lead" = some (.ref f)) (T : Tx K mg) (pn : ∀ i p, J.pin ≠ some (i, p)) (c__law_letter : CalD P w K mg base J 2 "_law_letter" s__law_letter ["t", "letter"] pp__law_letter) : CalD P w K mg base J 3 "_law_lead" s__law_lead ["t", "word"] pp__law_lead :=
  defD_ok F hx sc__law_lead (FunD.bindsN F fun _ _ _ _ _ _ us hl => match us, hl with | [_, _], _ => rfl) len__law_lead (body__law_lead T pn c__law_letter) spec__law_lead
abbrev N__law_word : List Str := ["bag", "least", "most", "size", "word", "habit", "at"]
theorem sc__law_word : FnScope N__law_word ["bag", "least", "most"] (defScope s__law_word) := ⟨rfl, rfl, rfl, by decide +kernel, rfl, by decide +kernel, by decide +kernel⟩
theorem body__law_word {f : Addr} (T : Tx K mg) (pn : ∀ i p, J.pin ≠ some (i, p)) (c__law_draw : CalD P w K mg base J 1 "_law_draw" s__law_draw ["bag", "many"] pp__law_draw) (c__law_pick : CalD P w K mg base J 2 "_law_pick" s__law_pick ["bag", "things"] pp__law_pick) (cdv : Value) (A : Around) (outer : List Env) (s : Shared) (H : Hp) (E : XK) (hr : Room 2 (A.deeper (envOfC "_law_word" (defScope s__law_word) s.heap.objs.size f cdv))) :
    PSsd J (cxOf CX0 P w K mg base N__law_word "_law_word" (defScope s__law_word) f cdv A outer s H E).nox (defBody s__law_word) q__law_word :=
  (pssd_cons (psd_set (i := 3) sc__law_word.nd rfl (.inl rfl) (pn 3) (pr_binN op_dAdd (pv 1) (pv_of (pr_callC c__law_draw hr (by decide) (by rfl) (paa_n (pv 0) (paa_d (pd_of (pr_bin op_dAdd (pd_of (pr_binN op_dSub (pv 2) (pv_var (pv 1)))) (pv_ofD pd_int))) paa_nil))))))
    (pssd_cons (psd_if (pb_cmpN (op_dEq hr.units) (nomark _) (pv 3) (pv_ofD pd_int)) (pssd_cons (psd_ret (pr_callC c__law_pick hr (by decide) (by rfl) (paa_n (pv 0) (paa_d (pd_tup (pl_cons pd_str (pl_cons pd_str pl_nil)) rfl) paa_nil))))
    pssd_nil) pssd_nil)
    (pssd_cons (psd_set (i := 4) sc__law_word.nd rfl (.inl rfl) (pn 4) (pr_if (pb_cmpN op_dGt (nomark _) (pv 3) (pv_ofD pd_int)) (pr_of pd_str) (pr_of pd_str)))
    (pssd_cons (psd_set (i := 5) sc__law_word.nd rfl (.inl rfl) (pn 5) (pr_callC c__law_draw hr (by decide) (by rfl) (paa_n (pv 0) (paa_d pd_int paa_nil))))
    (pssd_cons (psd_for PassesOwn.never rfl (pit_r2 (by rfl) T.m_range (pl_cons pd_int (pl_cons (pd_var (pv 3)) pl_nil))) (pgd_name (pg_name (i := 6) sc__law_word.nd rfl (.inl rfl))) (pssd_cons (psd_if (pb_cmp (op_dEq hr.units) (nomark _) (pd_of (pr_binN op_dSub (pv 6) (pv_of (pr_bin op_dMul (pd_of (pr_binN op_dFdiv (pv 6) (pv_ofD pd_int))) (pv_ofD pd_int))))) (pv_ofD pd_int)) (pssd_cons (psd_set (i := 4) sc__law_word.nd rfl (.inl rfl) (pn 4) (pr_binN op_dAdd (pv 4) (pv_ofD pd_str)))
    pssd_nil) (pssd_cons (psd_if (pb_cmpN (op_dEq hr.units) (nomark _) (pv 5) (pv_ofD pd_int)) (pssd_cons (psd_set (i := 4) sc__law_word.nd rfl (.inl rfl) (pn 4) (pr_binN op_dAdd (pv 4) (pv_ofD pd_str)))
    pssd_nil) (pssd_cons (psd_if (pb_cmpN (op_dEq hr.units) (nomark _) (pv 5) (pv_ofD pd_int)) (pssd_cons (psd_set (i := 4) sc__law_word.nd rfl (.inl rfl) (pn 4) (pr_binN op_dAdd (pv 4) (pv_of (pr_ix pd_str (pv_of (pr_bin op_dSub (pd_of (pr_binN op_dFdiv (pv 6) (pv_ofD pd_int))) (pv_of (pr_bin op_dMul (pd_of (pr_binN op_dFdiv (pv 6) (pv_ofD pd_int))) (pv_ofD pd_int))))) (fun _ _ => rfl)))))
    pssd_nil) (pssd_cons (psd_set (i := 4) sc__law_word.nd rfl (.inl rfl) (pn 4) (pr_binN op_dAdd (pv 4) (pv_of (pr_callC c__law_pick hr (by decide) (by rfl) (paa_n (pv 0) (paa_d (pd_tup (pl_cons pd_str (pl_cons pd_str pl_nil)) rfl) paa_nil))))))
    pssd_nil))
    pssd_nil))
    pssd_nil))
    pssd_nil))
    (pssd_cons (psd_ret (pr_var (pv 4)))
    pssd_nil))))))
theorem ok__law_word {f : Addr} {fd : FuncData} (F : FnP K "_law_word" s__law_word f fd) (hx : mg "_law_word" = some (.ref f)) (T : Tx K mg) (pn : ∀ i p, J.pin ≠ some (i, p)) (c__law_draw : CalD P w K mg base J 1 "_law_draw" s__law_draw ["bag", "many"] pp__law_draw) (c__law_pick : CalD P w K mg base J 2 "_law_pick" s__law_pick ["bag", "things"] pp__law_pick) : CalD P w K mg base J 3 "_law_word" s__law_word ["bag", "least", "most"] pp__law_word :=
  defD_ok F hx sc__law_word (FunD.bindsN F fun _ _ _ _ _ _ us hl => match us, hl with | [_, _, _], _ => rfl) len__law_word (body__law_word T pn c__law_draw c__law_pick) spec__law_word
abbrev N_law : List Str := ["script", "bag", "far", "number", "sure", "one", "other", "like", "lap", "least", "most"]
theorem sc_law : FnScope N_law ["script"] (defScope s_law) := ⟨rfl, rfl, rfl, by decide +kernel, rfl, by decide +kernel, by decide +kernel⟩
theorem body_law {f : Addr} (T : Tx K mg) (pn : ∀ i p, (jarI good).pin ≠ some (i, p)) (c__law_bag : CalD P w K mg base (jarI good) 1 "_law_bag" s__law_bag ["script"] pp__law_bag) (c__law_holds : CalD P w K mg base (jarI good) 4 "_law_holds" s__law_holds ["bag", "t"] pp__law_holds) (c__law_draw : CalD P w K mg base (jarI good) 1 "_law_draw" s__law_draw ["bag", "many"] pp__law_draw) (c__law_pick : CalD P w K mg base (jarI good) 2 "_law_pick" s__law_pick ["bag", "things"] pp__law_pick) (c__law_same : CalD P w K mg base (jarI good) 1 "_law_same" s__law_same ["told", "due"] pp__law_same) (c_same_closing : CalD P w K mg base (jarI good) 3 "same_closing" s_same_closing ["one", "other"] pp_same_closing) (c__law_lead : CalD P w K mg base (jarI good) 3 "_law_lead" s__law_lead ["t", "word"] pp__law_lead) (c__law_word : CalD P w K mg base (jarI good) 3 "_law_word" s__law_word ["bag", "least", "most"] pp__law_word) (cdv : Value) (A : Around) (outer : List Env) (s : Shared) (H : Hp) (E : XK) (hr : Room 4 (A.deeper (envOfC "law" (defScope s_law) s.heap.objs.size f cdv))) :
    PSs (cxOf CX0 P w K mg base N_law "law" (defScope s_law) f cdv A outer s H E).nox (defBody s_law) (tLw K (jarI good) q_law) :=
  (law_seq (psd_set (i := 1) sc_law.nd rfl (.inl rfl) (pn 1) (pr_callC c__law_bag hr (by decide) (by rfl) (paa_n (pv 0) paa_nil)))
    (law_jar (good := good) (i := 1) (pssd_cons (psd_set (i := 2) sc_law.nd rfl (.inl rfl) (pn 2) (pr_cmp (op_dEq hr.units) (nomark _) (pd_of (pr_callC c__law_draw hr (by decide) (by rfl) (paa_n (pv 1) (paa_d pd_int paa_nil)))) (pv_ofD pd_int)))
    (pssd_cons (psd_set (i := 3) sc_law.nd rfl (.inl rfl) (pn 3) (pr_bin op_dAdd pd_int (pv_of (pr_callC c__law_draw hr (by decide) (by rfl) (paa_n (pv 1) (paa_d pd_int paa_nil))))))
    (pssd_cons (psd_set (i := 4) sc_law.nd rfl (.inl rfl) (pn 4) (pr_lst (pl_cons (pd_tup (pl_cons (pd_tup (pl_cons (pd_var (pv 3)) (pl_cons pd_int pl_nil)) rfl) (pl_cons (pd_tup (pl_cons (pd_neg (pd_var (pv 3))) (pl_cons (pd_of (pr_binN op_dSub (pv 3) (pv_ofD pd_int))) pl_nil)) rfl) (pl_cons pd_bl pl_nil))) rfl) (pl_cons (pd_tup (pl_cons (pd_tup (pl_cons (pd_var (pv 3)) (pl_cons pd_int pl_nil)) rfl) (pl_cons (pd_tup (pl_cons (pd_of (pr_binN op_dAdd (pv 3) (pv_ofD pd_int))) (pl_cons pd_int pl_nil)) rfl) (pl_cons pd_bl pl_nil))) rfl) (pl_cons (pd_tup (pl_cons (pd_tup (pl_cons (pd_var (pv 3)) (pl_cons pd_int pl_nil)) rfl) (pl_cons (pd_tup (pl_cons (pd_neg (pd_var (pv 3))) (pl_cons pd_int pl_nil)) rfl) (pl_cons pd_bl pl_nil))) rfl) pl_nil))) rfl))
    (pssd_cons (psd_expr (pr_ext (pv 4) (pr_lst (pl_cons (pd_tup (pl_cons (pd_tup (pl_cons pd_int (pl_cons pd_int pl_nil)) rfl) (pl_cons (pd_tup (pl_cons (pd_neg pd_int) (pl_cons (pd_var (pv 3)) pl_nil)) rfl) (pl_cons pd_bl pl_nil))) rfl) (pl_cons (pd_tup (pl_cons (pd_tup (pl_cons pd_int (pl_cons pd_int pl_nil)) rfl) (pl_cons (pd_tup (pl_cons pd_int (pl_cons pd_int pl_nil)) rfl) (pl_cons pd_bl pl_nil))) rfl) (pl_cons (pd_tup (pl_cons (pd_tup (pl_cons pd_int (pl_cons pd_int pl_nil)) rfl) (pl_cons (pd_tup (pl_cons (pd_neg pd_int) (pl_cons pd_int pl_nil)) rfl) (pl_cons pd_bl pl_nil))) rfl) (pl_cons (pd_tup (pl_cons (pd_tup (pl_cons pd_int (pl_cons pd_int pl_nil)) rfl) (pl_cons (pd_tup (pl_cons (pd_neg pd_int) (pl_cons pd_int pl_nil)) rfl) (pl_cons pd_bl pl_nil))) rfl) pl_nil)))) rfl)))
    (pssd_cons (psd_for PassesOwn.never rfl (pit_d (pd_var (pv 4))) (pgd_tup rfl (pgds_cons (pgd_name (pg_name (i := 5) sc_law.nd rfl (.inl rfl))) (pgds_cons (pgd_name (pg_name (i := 6) sc_law.nd rfl (.inl rfl))) (pgds_cons (pgd_name (pg_name (i := 7) sc_law.nd rfl (.inl rfl))) pgds_nil)))) (pssd_cons (psd_if (pb_not (pb_tru (pd_of (pr_callC c__law_same hr (by decide) (by rfl) (paa_d (pd_of (pr_callC c_same_closing hr (by decide) (by rfl) (paa_n (pv 5) (paa_n (pv 6) paa_nil)))) (paa_n (pv 7) paa_nil)))) (by intro _; rfl))) (pssd_cons (psd_ret (pr_of pd_bl))
    pssd_nil) pssd_nil)
    pssd_nil))
    (pssd_cons (psd_for PassesOwn.never rfl (pit_r1 (by rfl) T.m_range (pl_cons pd_int pl_nil)) (pgd_name (pg_name (i := 8) sc_law.nd rfl (.inl rfl))) (pssd_cons (psd_set (i := 9) sc_law.nd rfl (.inl rfl) (pn 9) (pr_if (pb_w (pwd_and (pb_tru (pd_var (pv 2)) (by intro _; rfl)) (pwd_and1 (pb_cmpN (op_dEq hr.units) (nomark _) (pv 8) (pv_ofD pd_int))))) (pr_of pd_int) (pr_of pd_int)))
    (pssd_cons (psd_set (i := 10) sc_law.nd rfl (.inl rfl) (pn 10) (pr_if (pb_w (pwd_and (pb_tru (pd_var (pv 2)) (by intro _; rfl)) (pwd_and1 (pb_cmpN (op_dEq hr.units) (nomark _) (pv 8) (pv_ofD pd_int))))) (pr_of pd_int) (pr_bin op_dAdd pd_int (pv_of (pr_bin op_dMul pd_int (pv_of (pr_binN op_dSub (pv 8) (pv_of (pr_bin op_dMul (pd_of (pr_binN op_dFdiv (pv 8) (pv_ofD pd_int))) (pv_ofD pd_int))))))))))
    (pssd_cons (psd_if (pb_not (pb_tru (pd_of (pr_callC c__law_holds hr (by decide) (by rfl) (paa_n (pv 1) (paa_d (pd_of (pr_callC c__law_lead hr (by decide) (by rfl) (paa_d (pd_tup (pl_cons pd_int (pl_cons pd_int pl_nil)) rfl) (paa_d (pd_of (pr_callC c__law_word hr (by decide) (by rfl) (paa_n (pv 1) (paa_n (pv 9) (paa_n (pv 10) paa_nil))))) paa_nil)))) paa_nil)))) (by intro _; rfl))) (pssd_cons (psd_ret (pr_of pd_bl))
    pssd_nil) pssd_nil)
    pssd_nil))))
    (pssd_cons (psd_ret (pr_callC c__law_holds hr (by decide) (by rfl) (paa_n (pv 1) (paa_d (pd_of (pr_callC c__law_pick hr (by decide) (by rfl) (paa_n (pv 1) (paa_d (pd_tup (pl_cons (pd_tup (pl_cons pd_int (pl_cons pd_int pl_nil)) rfl) (pl_cons (pd_tup (pl_cons pd_int (pl_cons pd_int pl_nil)) rfl) (pl_cons (pd_tup (pl_cons (pd_neg pd_int) (pl_cons pd_int pl_nil)) rfl) (pl_cons (pd_tup (pl_cons (pd_var (pv 3)) (pl_cons pd_int pl_nil)) rfl) (pl_cons (pd_tup (pl_cons (pd_neg (pd_var (pv 3))) (pl_cons pd_int pl_nil)) rfl) (pl_cons (pd_tup (pl_cons pd_int (pl_cons (pd_var (pv 3)) pl_nil)) rfl) pl_nil)))))) rfl) paa_nil)))) paa_nil))))
    pssd_nil)))))))))
theorem ok_law {f : Addr} {fd : FuncData} (F : FnP K "law" s_law f fd) (T : Tx K mg) (c__law_bag : CalD P w K mg base (jarI good) 1 "_law_bag" s__law_bag ["script"] pp__law_bag) (c__law_holds : CalD P w K mg base (jarI good) 4 "_law_holds" s__law_holds ["bag", "t"] pp__law_holds) (c__law_draw : CalD P w K mg base (jarI good) 1 "_law_draw" s__law_draw ["bag", "many"] pp__law_draw) (c__law_pick : CalD P w K mg base (jarI good) 2 "_law_pick" s__law_pick ["bag", "things"] pp__law_pick) (c__law_same : CalD P w K mg base (jarI good) 1 "_law_same" s__law_same ["told", "due"] pp__law_same) (c_same_closing : CalD P w K mg base (jarI good) 3 "same_closing" s_same_closing ["one", "other"] pp_same_closing) (c__law_lead : CalD P w K mg base (jarI good) 3 "_law_lead" s__law_lead ["t", "word"] pp__law_lead) (c__law_word : CalD P w K mg base (jarI good) 3 "_law_word" s__law_word ["bag", "least", "most"] pp__law_word) : FnOk P w K mg base CX0 5 f fd ["script"] (spLaw K) :=
  lawD_ok F sc_law (fun i p h => by cases h) (body_law T (fun i p h => by cases h) c__law_bag c__law_holds c__law_draw c__law_pick c__law_same c_same_closing c__law_lead c__law_word) spec_law
end
def d__law_bag : He.DefD := ⟨("_law_bag", none), "_law_bag", "_law_bag", defArgs s__law_bag, defBody s__law_bag, defScope s__law_bag, [], []⟩
def d__law_inverse : He.DefD := ⟨("_law_inverse", none), "_law_inverse", "_law_inverse", defArgs s__law_inverse, defBody s__law_inverse, defScope s__law_inverse, [], []⟩
def d__law_closing : He.DefD := ⟨("_law_closing", none), "_law_closing", "_law_closing", defArgs s__law_closing, defBody s__law_closing, defScope s__law_closing, [], []⟩
def d__law_draw : He.DefD := ⟨("_law_draw", none), "_law_draw", "_law_draw", defArgs s__law_draw, defBody s__law_draw, defScope s__law_draw, [], []⟩
def d__law_letters : He.DefD := ⟨("_law_letters", none), "_law_letters", "_law_letters", defArgs s__law_letters, defBody s__law_letters, defScope s__law_letters, [], []⟩
def d__law_divisor : He.DefD := ⟨("_law_divisor", none), "_law_divisor", "_law_divisor", defArgs s__law_divisor, defBody s__law_divisor, defScope s__law_divisor, [], []⟩
def d__law_partners : He.DefD := ⟨("_law_partners", none), "_law_partners", "_law_partners", defArgs s__law_partners, defBody s__law_partners, defScope s__law_partners, [], []⟩
def d__law_same : He.DefD := ⟨("_law_same", none), "_law_same", "_law_same", defArgs s__law_same, defBody s__law_same, defScope s__law_same, [], []⟩
def d_undone_modulo : He.DefD := ⟨("undone_modulo", none), "undone_modulo", "undone_modulo", defArgs s_undone_modulo, defBody s_undone_modulo, defScope s_undone_modulo, [], []⟩
def d_closing : He.DefD := ⟨("closing", none), "closing", "closing", defArgs s_closing, defBody s_closing, defScope s_closing, [], []⟩
def d_closing_ropes : He.DefD := ⟨("closing_ropes", none), "closing_ropes", "closing_ropes", defArgs s_closing_ropes, defBody s_closing_ropes, defScope s_closing_ropes, [], []⟩
def d__law_pick : He.DefD := ⟨("_law_pick", none), "_law_pick", "_law_pick", defArgs s__law_pick, defBody s__law_pick, defScope s__law_pick, [], []⟩
def d_same_closing : He.DefD := ⟨("same_closing", none), "same_closing", "same_closing", defArgs s_same_closing, defBody s_same_closing, defScope s_same_closing, [], []⟩
def d__law_holds : He.DefD := ⟨("_law_holds", none), "_law_holds", "_law_holds", defArgs s__law_holds, defBody s__law_holds, defScope s__law_holds, [], []⟩
def d__law_move : He.DefD := ⟨("_law_move", none), "_law_move", "_law_move", defArgs s__law_move, defBody s__law_move, defScope s__law_move, [], []⟩
def d__law_letter : He.DefD := ⟨("_law_letter", none), "_law_letter", "_law_letter", defArgs s__law_letter, defBody s__law_letter, defScope s__law_letter, [], []⟩
def d__law_lead : He.DefD := ⟨("_law_lead", none), "_law_lead", "_law_lead", defArgs s__law_lead, defBody s__law_lead, defScope s__law_lead, [], []⟩
def d__law_word : He.DefD := ⟨("_law_word", none), "_law_word", "_law_word", defArgs s__law_word, defBody s__law_word, defScope s__law_word, [], []⟩
def d_law : He.DefD := ⟨("law", none), "law", "law", defArgs s_law, defBody s_law, defScope s_law, [], []⟩
def fn : List He.DefD := [d__law_bag, d__law_inverse, d__law_closing, d__law_draw, d__law_letters, d__law_divisor, d__law_partners, d__law_same, d_undone_modulo, d_closing, d_closing_ropes, d__law_pick, d_same_closing, d__law_holds, d__law_move, d__law_letter, d__law_lead, d__law_word, d_law]
def fa : List He.Fa := [.glo "_law_bag", .glo "_law_inverse", .glo "_law_closing", .glo "_law_draw", .glo "_law_letters", .glo "_law_divisor", .glo "_law_partners", .glo "_law_same", .glo "undone_modulo", .glo "closing", .glo "closing_ropes", .glo "_law_pick", .glo "same_closing", .glo "_law_holds", .glo "_law_move", .glo "_law_letter", .glo "_law_lead", .glo "_law_word", .glo "law", .free "abs", .free "bool", .free "int", .free "isinstance", .free "len", .free "max", .free "min", .free "range", .free "tuple"]
abbrev R : PySem.W.OpenRow := PySem.W.OpenLaw.row PySem.Challenge.rw_calledloose_k41_closings
abbrev hk : PySem.W.Hook := He.hookD 4 fa fn
def ob (s : PySem.W.SharedT) : He.AlD := He.obsDG 4 fa fn (HandSHeadRun.getT s)
theorem ob_eq (s : PySem.W.SharedT) : ob s = hk.obs s.abs := He.obsDG_eq (HandSHeadRun.getT_eq s)
theorem run (w : World) : HandSHeadRun.RunEq R (PySem.W.view R.prog [20]) hk ob 2000 ["undone_modulo", "closing", "closing_ropes", "same_closing", "_law_bag", "_law_draw", "_law_pick", "_law_move", "_law_letter", "_law_lead", "_law_word", "_law_letters", "_law_inverse", "_law_closing", "_law_divisor", "_law_partners", "_law_same", "_law_holds"] w := by
  intro os
  kernel_rfl
theorem facts {P : Program} {w : World} {K : PySem.W.Frag} {h : Heap} {mg : Str → Option Value} {f : Addr} (X : K.In h) (G : h.Ns mainGlobals mg) (hfa : mg ("law" : Str) = some (.ref f)) (c : He.SaysD fa fn K) :
    ∃ fd : FuncData, (∀ (s : Shared) (v : Value), BindsTo s fd ⟨[v], []⟩ [("script", v)]) ∧ ∀ base : Heap, K.In base → base.Ns mainGlobals mg → FnOk P w K mg base CX0 5 f fd ["script"] (spLaw K) := by
  obtain ⟨fd__law_bag, F__law_bag⟩ := c.def_ 0 (d := d__law_bag) rfl
  have g__law_bag := He.glo_ok X G (c.fact 0 (f := .glo "_law_bag") rfl)
  obtain ⟨fd__law_inverse, F__law_inverse⟩ := c.def_ 1 (d := d__law_inverse) rfl
  have g__law_inverse := He.glo_ok X G (c.fact 1 (f := .glo "_law_inverse") rfl)
  obtain ⟨fd__law_closing, F__law_closing⟩ := c.def_ 2 (d := d__law_closing) rfl
  have g__law_closing := He.glo_ok X G (c.fact 2 (f := .glo "_law_closing") rfl)
  obtain ⟨fd__law_draw, F__law_draw⟩ := c.def_ 3 (d := d__law_draw) rfl
  have g__law_draw := He.glo_ok X G (c.fact 3 (f := .glo "_law_draw") rfl)
  obtain ⟨fd__law_letters, F__law_letters⟩ := c.def_ 4 (d := d__law_letters) rfl
  have g__law_letters := He.glo_ok X G (c.fact 4 (f := .glo "_law_letters") rfl)
  obtain ⟨fd__law_divisor, F__law_divisor⟩ := c.def_ 5 (d := d__law_divisor) rfl
  have g__law_divisor := He.glo_ok X G (c.fact 5 (f := .glo "_law_divisor") rfl)
  obtain ⟨fd__law_partners, F__law_partners⟩ := c.def_ 6 (d := d__law_partners) rfl
  have g__law_partners := He.glo_ok X G (c.fact 6 (f := .glo "_law_partners") rfl)
  obtain ⟨fd__law_same, F__law_same⟩ := c.def_ 7 (d := d__law_same) rfl
  have g__law_same := He.glo_ok X G (c.fact 7 (f := .glo "_law_same") rfl)
  obtain ⟨fd_undone_modulo, F_undone_modulo⟩ := c.def_ 8 (d := d_undone_modulo) rfl
  have g_undone_modulo := He.glo_ok X G (c.fact 8 (f := .glo "undone_modulo") rfl)
  obtain ⟨fd_closing, F_closing⟩ := c.def_ 9 (d := d_closing) rfl
  have g_closing := He.glo_ok X G (c.fact 9 (f := .glo "closing") rfl)
  obtain ⟨fd_closing_ropes, F_closing_ropes⟩ := c.def_ 10 (d := d_closing_ropes) rfl
  have g_closing_ropes := He.glo_ok X G (c.fact 10 (f := .glo "closing_ropes") rfl)
  obtain ⟨fd__law_pick, F__law_pick⟩ := c.def_ 11 (d := d__law_pick) rfl
  have g__law_pick := He.glo_ok X G (c.fact 11 (f := .glo "_law_pick") rfl)
  obtain ⟨fd_same_closing, F_same_closing⟩ := c.def_ 12 (d := d_same_closing) rfl
  have g_same_closing := He.glo_ok X G (c.fact 12 (f := .glo "same_closing") rfl)
  obtain ⟨fd__law_holds, F__law_holds⟩ := c.def_ 13 (d := d__law_holds) rfl
  have g__law_holds := He.glo_ok X G (c.fact 13 (f := .glo "_law_holds") rfl)
  obtain ⟨fd__law_move, F__law_move⟩ := c.def_ 14 (d := d__law_move) rfl
  have g__law_move := He.glo_ok X G (c.fact 14 (f := .glo "_law_move") rfl)
  obtain ⟨fd__law_letter, F__law_letter⟩ := c.def_ 15 (d := d__law_letter) rfl
  have g__law_letter := He.glo_ok X G (c.fact 15 (f := .glo "_law_letter") rfl)
  obtain ⟨fd__law_lead, F__law_lead⟩ := c.def_ 16 (d := d__law_lead) rfl
  have g__law_lead := He.glo_ok X G (c.fact 16 (f := .glo "_law_lead") rfl)
  obtain ⟨fd__law_word, F__law_word⟩ := c.def_ 17 (d := d__law_word) rfl
  have g__law_word := He.glo_ok X G (c.fact 17 (f := .glo "_law_word") rfl)
  obtain ⟨fd_law, F_law⟩ := c.def_ 18 (d := d_law) rfl
  have e := hfa.symm.trans (He.glo_ok X G (c.fact 18 (f := .glo "law") rfl))
  cases e
  have b := FunD.bindsA (ps := ["script"]) F_law fun _ _ _ _ _ _ us hl => match us, hl with | [_], _ => rfl
  have T : Tx K mg := ⟨He.free_ok X G (c.fact 19 (f := .free "abs") rfl), He.free_ok X G (c.fact 20 (f := .free "bool") rfl), He.free_ok X G (c.fact 21 (f := .free "int") rfl), He.free_ok X G (c.fact 22 (f := .free "isinstance") rfl), He.free_ok X G (c.fact 23 (f := .free "len") rfl), He.free_ok X G (c.fact 24 (f := .free "max") rfl), He.free_ok X G (c.fact 25 (f := .free "min") rfl), He.free_ok X G (c.fact 26 (f := .free "range") rfl), He.free_ok X G (c.fact 27 (f := .free "tuple") rfl)⟩
  refine ⟨fd_law, fun s v => b s [v] rfl, fun base _ _ => ?_⟩
  have k__law_bag := ok__law_bag (P := P) (w := w) (base := base) (J := jarI good) F__law_bag g__law_bag T (fun i p h => by cases h) 
  have k__law_inverse := ok__law_inverse (P := P) (w := w) (base := base) (J := jarI good) F__law_inverse g__law_inverse T (fun i p h => by cases h) 
  have k__law_closing := ok__law_closing (P := P) (w := w) (base := base) (J := jarI good) F__law_closing g__law_closing T (fun i p h => by cases h) k__law_inverse
  have k__law_draw := ok__law_draw (P := P) (w := w) (base := base) F__law_draw g__law_draw T
  have k__law_letters := ok__law_letters (P := P) (w := w) (base := base) (J := jarI good) F__law_letters g__law_letters T (fun i p h => by cases h) 
  have k__law_divisor := ok__law_divisor (P := P) (w := w) (base := base) (J := jarI good) F__law_divisor g__law_divisor T (fun i p h => by cases h) 
  have k__law_partners := ok__law_partners (P := P) (w := w) (base := base) (J := jarI good) F__law_partners g__law_partners T (fun i p h => by cases h) k__law_inverse k__law_draw k__law_letters k__law_divisor
  have k__law_same := ok__law_same (P := P) (w := w) (base := base) (J := jarI good) F__law_same g__law_same T (fun i p h => by cases h) 
  have k_undone_modulo := ok_undone_modulo (P := P) (w := w) (base := base) (J := jarI good) F_undone_modulo g_undone_modulo T (fun i p h => by cases h) 
  have k_closing := ok_closing (P := P) (w := w) (base := base) (J := jarI good) F_closing g_closing T (fun i p h => by cases h) k_undone_modulo
  have k_closing_ropes := ok_closing_ropes (P := P) (w := w) (base := base) (J := jarI good) F_closing_ropes g_closing_ropes T (fun i p h => by cases h) 
  have k__law_pick := ok__law_pick (P := P) (w := w) (base := base) (J := jarI good) F__law_pick g__law_pick T (fun i p h => by cases h) k__law_draw
  have k_same_closing := ok_same_closing (P := P) (w := w) (base := base) (J := jarI good) F_same_closing g_same_closing T (fun i p h => by cases h) k_closing
  have k__law_holds := ok__law_holds (P := P) (w := w) (base := base) (J := jarI good) F__law_holds g__law_holds T (fun i p h => by cases h) k__law_closing k__law_partners k__law_same k_closing k_closing_ropes k__law_pick k_same_closing
  have k__law_move := ok__law_move (P := P) (w := w) (base := base) (J := jarI good) F__law_move g__law_move T (fun i p h => by cases h) 
  have k__law_letter := ok__law_letter (P := P) (w := w) (base := base) (J := jarI good) F__law_letter g__law_letter T (fun i p h => by cases h) k__law_move
  have k__law_lead := ok__law_lead (P := P) (w := w) (base := base) (J := jarI good) F__law_lead g__law_lead T (fun i p h => by cases h) k__law_letter
  have k__law_word := ok__law_word (P := P) (w := w) (base := base) (J := jarI good) F__law_word g__law_word T (fun i p h => by cases h) k__law_draw k__law_pick
  exact ok_law F_law T k__law_bag k__law_holds k__law_draw k__law_pick k__law_same k_same_closing k__law_lead k__law_word
end K41
open PySem PySem.W PySem.Calls PyProof.Rows
theorem PySem.Challenge.cw_calledloose_k41_closings_holds : PySem.Challenge.rw_calledloose_k41_closings.Holds := by
  w_on; o_law
  refine HandSHeadRun.head_any (r := OpenLaw.row PySem.Challenge.rw_calledloose_k41_closings) (q := view (OpenLaw.row PySem.Challenge.rw_calledloose_k41_closings).prog [20]) (H := K41.hk) (ob := K41.ob) (M := 2000) (loose := ["undone_modulo", "closing", "closing_ropes", "same_closing", "_law_bag", "_law_draw", "_law_pick", "_law_move", "_law_letter", "_law_lead", "_law_word", "_law_letters", "_law_inverse", "_law_closing", "_law_divisor", "_law_partners", "_law_same", "_law_holds"]) (d := HandSHeadRun.topDef (OpenLaw.row PySem.Challenge.rw_calledloose_k41_closings).prog 20) (kwd := []) K41.ob_eq
    (by kernel_rfl) (fun s => by kernel_rfl) K41.run (by kernel_rfl) (by kernel_rfl) (by kernel_rfl) (by rfl) (by first | assumption | decide +kernel) (by decide +kernel) ⟨rfl, rfl, rfl, rfl, rfl, by decide +kernel⟩ ?hw ?hc
  case hw => w_witness2
  case hc =>
    refine L2.walk_ofE (l := PySem.Challenge.rw_calledloose_k41_closings) (n := 63) (k := 5) (x := "script") (CX := L2.CX0) rfl (by decide) (by kernel_rfl) ⟨rfl, by decide, by decide⟩ ?F (fun _ _ _ _ z => z)
    intro w mg fa h Y G hmg0
    obtain ⟨K, KX, c⟩ := Y
    have hmg : mg ("law" : PySem.Str) = some (.ref fa) := by
      have e : (HandSHeadRun.topDef (OpenLaw.row PySem.Challenge.rw_calledloose_k41_closings).prog 20).name = ("law" : PySem.Str) := by kernel_rfl
      rw [← e]
      exact hmg0
    obtain ⟨fd, hb, hF⟩ := K41.facts (P := (PySem.Challenge.rw_calledloose_k41_closings).prog) (w := w) KX G hmg c
    exact ⟨K, fd, Zd.spLaw K, KX, hb, fun H a ns hl _ hS => ⟨a, ns, rfl, hS, hl, fun _ => rfl⟩, hF⟩

