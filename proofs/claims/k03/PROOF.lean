import PyProof.Rows.All
import Wide.All
import OpenK.AllK
import Wide.FinOn
import HandS.ForMost
import HandS.IsInst
import HandS.TupAny
import HandS.Wide
import HandS.WideBits
import HandS.Zip
import HandS.Gcd
import HandS.Walk
import PyProof.StrOps2
import HandS.Defaults
import HandS.HeadHook3
import HandS.HeadHook4
import HandS.Style
import HandS.Text
import HandS.Replace
import KE.KStateDown
import Lean
import HandS.Base
import HandS.Call
import HandS.Ends
import HandS.More
import HandS.Words
import HandS.WordsExc
import HandS.Head0
import HandS.Head1
import HandS.Head2
import HandS.Head3
import HandS.HeadEnd
import HandS.HeadHook1
import HandS.HeadHook2
import PySem.Challenge.RW_calledloose_k03_turns
set_option Elab.async false
set_option linter.all false
set_option maxRecDepth 100000
set_option maxHeartbeats 4000000
/-! A layer over plain data: what an expression, a statement, a def does is told by predicates over PyData, no heap in sight. -/
namespace Zd
open PySem PySem.Spec PyProof.Rows L2

abbrev D := PyData
/-- a part of the open drawing thing: data, a list, a dict -/
inductive Nd where
  | d (x : D)
  | l (ds : List D)
  | m (ks : List Key) (ds : List D)
/-- what the drawing thing holds; top: none if it is a list, else the keys of the dict -/
structure Jc where
  top : Option (List Str)
  es : List Nd
/-- what a slot holds: nothing known, data, a list of the def's own that may grow, the law's drawing thing -/
inductive Sl where
  | un
  | da (d : D)
  | ow (ds : List D)
  | ja
  | jo (c : Jc)
/-- tuples stand as they stood -/
def isTup : HO → Bool
  | .tup _ => true
  | .frz _ (.tup _) => true
  | _ => false
def KeepT (H H' : Hp) : Prop := ∀ a o, H a = some o → isTup o = true → H' a = some o
theorem KeepT.refl (H : Hp) : KeepT H H := fun _ _ e _ => e
theorem KeepT.trans {H1 H2 H3 : Hp} (h : KeepT H1 H2) (h' : KeepT H2 H3) : KeepT H1 H3 := fun a o e t => h' a o (h a o e t) t
theorem keep_new {H : Hp} {p : Addr} {o : HO} (h : H p = none) : KeepT H (upd H p o) := fun a u e _ => by rw [upd_ne (ne_of_none e h)]; exact e
theorem keep_upd {H : Hp} {p : Addr} {o u : HO} (h : H p = some u) (hu : isTup u = false) : KeepT H (upd H p o) := fun a w e t => by
  by_cases q : a = p
  · subst q
    rw [h] at e
    cases e
    rw [hu] at t
    cases t
  · rw [upd_ne q]
    exact e
mutual
/-- data without a list or a dict -/
def isT : PyData → Bool
  | .list _ => false
  | .dict _ => false
  | .tuple ds => isTs ds
  | _ => true
def isTs : List PyData → Bool
  | [] => true
  | d :: ds => isT d && isTs ds
end
structure Jr where
  is : List Addr → V → Hp → Prop
  loc : ∀ {as v H H'}, (∀ a ∈ as, H' a = H a) → KeepT H H' → is as v H → is as v H'
  dom : ∀ {as v H}, is as v H → ∀ a ∈ as, H a ≠ none
  jx : Option Nat := none
/-- the entry: the heap, the part of it that is data, the drawing thing's cells and value -/
structure En where
  He : Hp
  H0 : Hp
  as : List Addr
  jv : V

theorem same_up {H : Hp} {p : Addr} {o : HO} (h : H p = none) : Same H (upd H p o) := fun b x e => by
  rw [upd_ne (ne_of_none e h)]
  exact e
theorem same_up2 {H G : Hp} {p : Addr} {o : HO} (e : Same H G) : Same (upd H p o) (upd G p o) := fun b x h => by
  by_cases q : b = p
  · subst q; rw [upd_same] at h ⊢; exact h
  · rw [upd_ne q] at h ⊢; exact e b x h
theorem same_t {K : PySem.W.Frag} {H H' : Hp} {a : Addr} {xs : List V} (e : Same H H') (h : SqT K H a xs) : SqT K H' a xs := by
  rcases h with (h | ⟨o, h⟩) | h
  · exact .inl (.inl (e _ _ h))
  · exact .inl (.inr ⟨o, e _ _ h⟩)
  · exact .inr h
mutual
/-- data as it stands in a heap -/
inductive Dq (K : PySem.W.Frag) (H : Hp) : V → PyData → Prop
  | non : Dq K H .non .none
  | bl (b : Bool) : Dq K H (.bl b) (.bool b)
  | int (i : Int) : Dq K H (.int i) (.int i)
  | str (x : Str) : Dq K H (.str x) (.str x)
  | lst {p : Addr} {vs : List V} {ds : List PyData} (h : SqL K H p vs) (hd : DqAll K H vs ds) : Dq K H (.ref p) (.list ds)
  | tup {p : Addr} {vs : List V} {ds : List PyData} (h : SqT K H p vs) (hd : DqAll K H vs ds) : Dq K H (.ref p) (.tuple ds)
inductive DqAll (K : PySem.W.Frag) (H : Hp) : List V → List PyData → Prop
  | nil : DqAll K H [] []
  | cons {x : V} {xs : List V} {d : PyData} {ds : List PyData} (h : Dq K H x d) (t : DqAll K H xs ds) : DqAll K H (x :: xs) (d :: ds)
end
mutual
theorem dq_dp {K : PySem.W.Frag} {H : Hp} : ∀ (d : PyData) (v : V), Dq K H v d → L2.Dp K H v d
  | .none, _, h => by cases h; exact .non
  | .bool _, _, h => by cases h; exact .bl _
  | .int _, _, h => by cases h; exact .int _
  | .str _, _, h => by cases h; exact .str _
  | .list ds, _, h => by cases h with | lst hs ha => exact .lst hs (dqa_dp ds _ ha)
  | .tuple ds, _, h => by cases h with | tup hs ha => exact .tup hs (dqa_dp ds _ ha)
  | .dict _, _, h => by cases h
theorem dqa_dp {K : PySem.W.Frag} {H : Hp} : ∀ (ds : List PyData) (vs : List V), DqAll K H vs ds → L2.DpAll K H vs ds
  | [], _, h => by cases h; exact .nil
  | d :: ds, _, h => by cases h with | cons h1 h2 => exact .cons (dq_dp d _ h1) (dqa_dp ds _ h2)
end
mutual
theorem dp_mono {K : PySem.W.Frag} {H H' : Hp} (e : Same H H') : ∀ (d : PyData) (v : V), Dq K H v d → Dq K H' v d
  | .none, _, h => by cases h; exact .non
  | .bool _, _, h => by cases h; exact .bl _
  | .int _, _, h => by cases h; exact .int _
  | .str _, _, h => by cases h; exact .str _
  | .list ds, _, h => by cases h with | lst hs ha => exact .lst (e.seq hs) (dpa_mono e ds _ ha)
  | .tuple ds, _, h => by cases h with | tup hs ha => exact .tup (same_t e hs) (dpa_mono e ds _ ha)
  | .dict _, _, h => by cases h
theorem dpa_mono {K : PySem.W.Frag} {H H' : Hp} (e : Same H H') : ∀ (ds : List PyData) (vs : List V), DqAll K H vs ds → DqAll K H' vs ds
  | [], _, h => by cases h; exact .nil
  | d :: ds, _, h => by cases h with | cons h1 h2 => exact .cons (dp_mono e d _ h1) (dpa_mono e ds _ h2)
end
theorem dpa_len {K : PySem.W.Frag} {H : Hp} : ∀ {ds : List PyData} {vs : List V}, DqAll K H vs ds → vs.length = ds.length
  | [], _, h => by cases h; rfl
  | d :: ds, _, h => by cases h with | cons h1 h2 => rw [List.length_cons, List.length_cons, dpa_len h2]
theorem dpa_get {K : PySem.W.Frag} {H : Hp} : ∀ {ds : List PyData} {vs : List V} {i : Nat} {x : V}, DqAll K H vs ds → vs[i]? = some x → ∃ d, ds[i]? = some d ∧ Dq K H x d
  | [], _, _, _, h, e => by cases h; simp at e
  | d :: ds, _, 0, x, h, e => by
    cases h with
    | cons h1 h2 =>
      have q := Option.some.inj e
      subst q
      exact ⟨d, rfl, h1⟩
  | d :: ds, _, i + 1, x, h, e => by
    cases h with
    | cons h1 h2 => exact dpa_get (i := i) h2 e
theorem dpa_get' {K : PySem.W.Frag} {H : Hp} : ∀ {ds : List PyData} {vs : List V} {i : Nat} {d : D}, DqAll K H vs ds → ds[i]? = some d → ∃ x, vs[i]? = some x ∧ Dq K H x d
  | [], _, _, _, h, e => by simp at e
  | d :: ds, _, 0, x, h, e => by
    cases h with
    | cons h1 h2 =>
      have q := Option.some.inj e
      subst q
      exact ⟨_, rfl, h1⟩
  | d :: ds, _, i + 1, x, h, e => by
    cases h with
    | cons h1 h2 => exact dpa_get' (i := i) h2 e
theorem dpa_app {K : PySem.W.Frag} {H : Hp} : ∀ {ds es : List PyData} {vs us : List V}, DqAll K H vs ds → DqAll K H us es → DqAll K H (vs ++ us) (ds ++ es)
  | [], _, _, _, h, k => by cases h; exact k
  | d :: ds, _, _, _, h, k => by cases h with | cons h1 h2 => exact .cons h1 (dpa_app h2 k)
theorem dpa_one {K : PySem.W.Frag} {H : Hp} {v : V} {d : D} (h : Dq K H v d) : DqAll K H [v] [d] := .cons h .nil
theorem dpa_take {K : PySem.W.Frag} {H : Hp} : ∀ {ds : List PyData} {vs : List V} (n : Nat), DqAll K H vs ds → DqAll K H (vs.take n) (ds.take n)
  | _, _, 0, _ => .nil
  | [], _, _ + 1, h => by cases h; exact .nil
  | _ :: _, _, n + 1, h => by cases h with | cons h1 h2 => exact .cons h1 (dpa_take n h2)
theorem dpa_drop {K : PySem.W.Frag} {H : Hp} : ∀ {ds : List PyData} {vs : List V} (n : Nat), DqAll K H vs ds → DqAll K H (vs.drop n) (ds.drop n)
  | _, _, 0, h => h
  | [], _, _ + 1, h => by cases h; exact .nil
  | _ :: _, _, n + 1, h => by cases h with | cons h1 h2 => exact dpa_drop n h2
theorem dp_int {K : PySem.W.Frag} {H : Hp} {v : V} {i : Int} (h : Dq K H v (.int i)) : v = .int i := by cases h; rfl
theorem dp_bool {K : PySem.W.Frag} {H : Hp} {v : V} {i : Bool} (h : Dq K H v (.bool i)) : v = .bl i := by cases h; rfl
theorem dp_str {K : PySem.W.Frag} {H : Hp} {v : V} {i : Str} (h : Dq K H v (.str i)) : v = .str i := by cases h; rfl
theorem dp_none {K : PySem.W.Frag} {H : Hp} {v : V} (h : Dq K H v .none) : v = .non := by cases h; rfl
theorem dp_tup {K : PySem.W.Frag} {H : Hp} {v : V} {ds : List D} (h : Dq K H v (.tuple ds)) : ∃ a xs, v = .ref a ∧ SqT K H a xs ∧ DqAll K H xs ds := by cases h with | tup h1 h2 => exact ⟨_, _, rfl, h1, h2⟩
theorem dp_lst {K : PySem.W.Frag} {H : Hp} {v : V} {ds : List D} (h : Dq K H v (.list ds)) : ∃ a xs, v = .ref a ∧ SqL K H a xs ∧ DqAll K H xs ds := by cases h with | lst h1 h2 => exact ⟨_, _, rfl, h1, h2⟩

mutual
theorem dq_keep {K : PySem.W.Frag} {H H' : Hp} (e : KeepT H H') : ∀ (d : PyData) (v : V), isT d = true → Dq K H v d → Dq K H' v d
  | .none, _, _, h => by cases h; exact .non
  | .bool _, _, _, h => by cases h; exact .bl _
  | .int _, _, _, h => by cases h; exact .int _
  | .str _, _, _, h => by cases h; exact .str _
  | .list ds, _, t, h => by cases t
  | .tuple ds, _, t, h => by
    cases h with
    | tup hs ha =>
      refine .tup ?_ (dqa_keep e ds _ t ha)
      rcases hs with (h | ⟨o, h⟩) | h
      · exact .inl (.inl (e _ _ h rfl))
      · exact .inl (.inr ⟨o, e _ _ h rfl⟩)
      · exact .inr h
  | .dict _, _, t, h => by cases t
theorem dqa_keep {K : PySem.W.Frag} {H H' : Hp} (e : KeepT H H') : ∀ (ds : List PyData) (vs : List V), isTs ds = true → DqAll K H vs ds → DqAll K H' vs ds
  | [], _, _, h => by cases h; exact .nil
  | d :: ds, _, t, h => by
    have t' : (isT d && isTs ds) = true := t
    cases h with | cons h1 h2 => exact .cons (dq_keep e d _ (Bool.and_eq_true_iff.mp t').1 h1) (dqa_keep e ds _ (Bool.and_eq_true_iff.mp t').2 h2)
end
inductive NdAll (K : PySem.W.Frag) (H : Hp) : List V → List Nd → List Addr → Prop
  | nil : NdAll K H [] [] []
  | dat {x : V} {d : D} {xs : List V} {es : List Nd} {bs : List Addr} (h : Dq K H x d) (ht : isT d = true) (t : NdAll K H xs es bs) : NdAll K H (x :: xs) (.d d :: es) bs
  | lst {b : Addr} {ys : List V} {ds : List D} {xs : List V} {es : List Nd} {bs : List Addr} (h : H b = some (.lst ys)) (hd : DqAll K H ys ds) (ht : isTs ds = true) (hn : b ∉ bs) (t : NdAll K H xs es bs) : NdAll K H (.ref b :: xs) (.l ds :: es) (b :: bs)
  | dic {b : Addr} {ys : List V} {ks : List Key} {ds : List D} {xs : List V} {es : List Nd} {bs : List Addr} (h : H b = some (.dK (ks.zip ys))) (hl : ks.length = ys.length) (hd : DqAll K H ys ds) (ht : isTs ds = true) (hn : b ∉ bs) (t : NdAll K H xs es bs) : NdAll K H (.ref b :: xs) (.m ks ds :: es) (b :: bs)
theorem NdAll.loc {K : PySem.W.Frag} {H H' : Hp} (S : KeepT H H') : ∀ {xs : List V} {es : List Nd} {bs : List Addr}, (∀ b ∈ bs, H' b = H b) → NdAll K H xs es bs → NdAll K H' xs es bs
  | _, _, _, _, .nil => .nil
  | _, _, _, e, .dat h ht t => .dat (dq_keep S _ _ ht h) ht (NdAll.loc S e t)
  | _, _, _, e, .lst h hd ht hn t => .lst (by rw [e _ (List.mem_cons_self ..)]; exact h) (dqa_keep S _ _ ht hd) ht hn (NdAll.loc S (fun b m => e b (List.mem_cons_of_mem _ m)) t)
  | _, _, _, e, .dic h hl hd ht hn t => .dic (by rw [e _ (List.mem_cons_self ..)]; exact h) hl (dqa_keep S _ _ ht hd) ht hn (NdAll.loc S (fun b m => e b (List.mem_cons_of_mem _ m)) t)
theorem NdAll.dom {K : PySem.W.Frag} {H : Hp} : ∀ {xs : List V} {es : List Nd} {bs : List Addr}, NdAll K H xs es bs → ∀ b ∈ bs, ∃ o, H b = some o ∧ isTup o = false
  | _, _, _, .nil => fun b m => by cases m
  | _, _, _, .dat _ _ t => NdAll.dom t
  | _, _, _, .lst h _ _ _ t => fun b m => by
    rcases List.mem_cons.mp m with q | q
    · rw [q]; exact ⟨_, h, rfl⟩
    · exact NdAll.dom t b q
  | _, _, _, .dic h _ _ _ _ t => fun b m => by
    rcases List.mem_cons.mp m with q | q
    · rw [q]; exact ⟨_, h, rfl⟩
    · exact NdAll.dom t b q
/-- the top of the drawing thing -/
def topHO (top : Option (List Str)) (xs : List V) : HO := match top with
  | none => .lst xs
  | some ks => .dK ((ks.map Sum.inr).zip xs)
theorem topHO_nt (top : Option (List Str)) (xs : List V) : isTup (topHO top xs) = false := by cases top <;> rfl
/-- the drawing thing stands at v with content c, its cells as -/
def JAt (K : PySem.W.Frag) (H : Hp) (as : List Addr) (v : V) (c : Jc) : Prop :=
  ∃ (j : Addr) (xs : List V) (bs : List Addr), as = j :: bs ∧ v = .ref j ∧ H j = some (topHO c.top xs) ∧ NdAll K H xs c.es bs ∧ j ∉ bs ∧ ∀ ks, c.top = some ks → ks.length = xs.length ∧ ks.Nodup
theorem JAt.loc {K : PySem.W.Frag} {H H' : Hp} {as : List Addr} {v : V} {c : Jc} (e : ∀ a ∈ as, H' a = H a) (S : KeepT H H') : JAt K H as v c → JAt K H' as v c := fun ⟨j, xs, bs, h1, h2, h3, h4, h5, h6⟩ => by
  subst h1
  exact ⟨j, xs, bs, rfl, h2, by rw [e _ (List.mem_cons_self ..)]; exact h3, h4.loc S fun b m => e b (List.mem_cons_of_mem _ m), h5, h6⟩
theorem JAt.dom {K : PySem.W.Frag} {H : Hp} {as : List Addr} {v : V} {c : Jc} : JAt K H as v c → ∀ a ∈ as, H a ≠ none := fun ⟨j, xs, bs, h1, h2, h3, h4, _⟩ a m => by
  subst h1
  rcases List.mem_cons.mp m with q | q
  · rw [q, h3]; intro z; cases z
  · obtain ⟨o, e, _⟩ := h4.dom a q
    rw [e]; intro z; cases z
def SlOk (K : PySem.W.Frag) (n : En) (σ : L2.St) (H H0 : Hp) (i : Nat) : Sl → Prop
  | .un => True
  | .da d => ∃ v, σ[i]? = some (some v) ∧ Dq K H0 v d
  | .ow ds => ∃ a xs, σ[i]? = some (some (.ref a)) ∧ H a = some (.lst xs) ∧ DqAll K H0 xs ds ∧ H0 a = none ∧ n.He a = none
  | .ja => σ[i]? = some (some n.jv) ∧ n.as ≠ []
  | .jo c => σ[i]? = some (some n.jv) ∧ n.as ≠ [] ∧ JAt K H n.as n.jv c
structure Rp (K : PySem.W.Frag) (J : Jr) (n : En) (σ : L2.St) (H H0 : Hp) (ρ : List Sl) : Prop where
  len : σ.length = ρ.length
  sub : Same H0 H
  sl : ∀ i s, ρ[i]? = some s → SlOk K n σ H H0 i s
  sep : ∀ (i j : Nat) (ds es : List D), i ≠ j → ρ[i]? = some (Sl.ow ds) → ρ[j]? = some (Sl.ow es) → σ[i]? ≠ σ[j]?
  fr : ∀ a o, a ∉ n.as → n.He a = some o → H a = some o
  base : Same n.H0 H0
  fresh : ∀ a, n.H0 a = none → n.He a ≠ none → H0 a = none
  jar : n.as ≠ [] → J.is n.as n.jv H
  jdom : ∀ a ∈ n.as, n.H0 a = none ∧ n.He a ≠ none
  jx : ∀ i c, ρ[i]? = some (Sl.jo c) → J.jx = some i
/-- a result: data, or a new list that nothing else knows -/
def ResOk (K : PySem.W.Frag) (n : En) (σ : L2.St) (ρ : List Sl) (H H0 : Hp) (v : V) : Sl → Prop
  | .da d => Dq K H0 v d
  | .ow ds => ∃ a xs, v = .ref a ∧ H a = some (.lst xs) ∧ DqAll K H0 xs ds ∧ H0 a = none ∧ n.He a = none ∧ ∀ (i : Nat) (es : List D), ρ[i]? = some (Sl.ow es) → σ[i]? ≠ some (some (V.ref a))
  | _ => False
def RetOk (K : PySem.W.Frag) (J : Jr) (n : En) (H : Hp) (v : V) (r : Sl) : Prop :=
  ∃ H0, Same H0 H ∧ (∀ a o, a ∉ n.as → n.He a = some o → H a = some o) ∧ Same n.H0 H0 ∧ (∀ a, n.H0 a = none → n.He a ≠ none → H0 a = none) ∧ (n.as ≠ [] → J.is n.as n.jv H) ∧ ResOk K n [] [] H H0 v r

section
variable {K : PySem.W.Frag} {J : Jr} {n : En} {σ : L2.St} {H H0 : Hp} {ρ : List Sl} {v : V} {r : Sl}
theorem Rp.hej (R : Rp K J n σ H H0 ρ) {a : Addr} (h : n.He a ≠ none) : H a ≠ none := by
  by_cases q : a ∈ n.as
  · exact J.dom (R.jar (by intro e; rw [e] at q; cases q)) a q
  · cases e : n.He a with
    | none => exact absurd e h
    | some o => rw [R.fr a o q e]; intro z; cases z
theorem Rp.he0 (R : Rp K J n σ H H0 ρ) {a : Addr} (h : H a = none) : n.He a = none := by
  cases e : n.He a with
  | none => rfl
  | some o => exact absurd h (R.hej (by rw [e]; intro z; cases z))
theorem Rp.h0 (R : Rp K J n σ H H0 ρ) {a : Addr} (h : H a = none) : H0 a = none := R.sub.free h
theorem Rp.jh0 (R : Rp K J n σ H H0 ρ) {a : Addr} (h : a ∈ n.as) : H0 a = none := R.fresh a (R.jdom a h).1 (R.jdom a h).2
theorem Rp.asne (R : Rp K J n σ H H0 ρ) {p : Addr} {o : HO} (h : H p = none) (q : n.as ≠ []) : ∀ a ∈ n.as, upd H p o a = H a := fun a ha => upd_ne (fun e => J.dom (R.jar q) a ha (by rw [e]; exact h))
/-- a new object that is data -/
theorem Rp.alloc (R : Rp K J n σ H H0 ρ) {p : Addr} {o : HO} (h : H p = none) : Rp K J n σ (upd H p o) (upd H0 p o) ρ where
  len := R.len
  sub := same_up2 R.sub
  sl := fun i s e => by
    have q := R.sl i s e
    cases s with
    | un => trivial
    | da d =>
      obtain ⟨v, h1, h2⟩ := q
      exact ⟨v, h1, dp_mono (same_up (R.h0 h)) d v h2⟩
    | ow ds =>
      obtain ⟨a, xs, h1, h2, h3, h4, h5⟩ := q
      have np : a ≠ p := ne_of_none h2 h
      exact ⟨a, xs, h1, by rw [upd_ne np]; exact h2, dpa_mono (same_up (R.h0 h)) ds xs h3, by rw [upd_ne np]; exact h4, h5⟩
    | ja => exact q
    | jo c => exact ⟨q.1, q.2.1, q.2.2.loc (R.asne h q.2.1) (keep_new h)⟩
  sep := R.sep
  fr := fun a u ha e => by rw [upd_ne (ne_of_none (R.fr a u ha e) h)]; exact R.fr a u ha e
  base := R.base.trans (same_up (R.h0 h))
  fresh := fun a h1 h2 => by
    have np : a ≠ p := fun q => (R.hej h2) (by rw [q]; exact h)
    rw [upd_ne np]
    exact R.fresh a h1 h2
  jar := fun q => J.loc (fun a ha => R.asne h q a ha) (keep_new h) (R.jar q)
  jdom := R.jdom
  jx := R.jx
/-- a new object that is not data (so far) -/
theorem Rp.laid (R : Rp K J n σ H H0 ρ) {p : Addr} {o : HO} (h : H p = none) : Rp K J n σ (upd H p o) H0 ρ where
  len := R.len
  sub := R.sub.trans (same_up h)
  sl := fun i s e => by
    have q := R.sl i s e
    cases s with
    | un => trivial
    | da d => exact q
    | ow ds =>
      obtain ⟨a, xs, h1, h2, h3, h4, h5⟩ := q
      exact ⟨a, xs, h1, by rw [upd_ne (ne_of_none h2 h)]; exact h2, h3, h4, h5⟩
    | ja => exact q
    | jo c => exact ⟨q.1, q.2.1, q.2.2.loc (R.asne h q.2.1) (keep_new h)⟩
  sep := R.sep
  fr := fun a u ha e => by rw [upd_ne (ne_of_none (R.fr a u ha e) h)]; exact R.fr a u ha e
  base := R.base
  fresh := R.fresh
  jar := fun q => J.loc (fun a ha => R.asne h q a ha) (keep_new h) (R.jar q)
  jdom := R.jdom
  jx := R.jx
/-- a new list becomes data -/
theorem Rp.freeze (R : Rp K J n σ H H0 ρ) {a : Addr} {xs : List V} (h : H a = some (.lst xs)) (h0 : H0 a = none) (he : n.He a = none) (hs : ∀ (i : Nat) (es : List D), ρ[i]? = some (Sl.ow es) → σ[i]? ≠ some (some (V.ref a))) :
    Rp K J n σ H (upd H0 a (.lst xs)) ρ where
  len := R.len
  sub := fun b o e => by
    by_cases q : b = a
    · subst q; rw [upd_same] at e; rw [h]; exact e
    · rw [upd_ne q] at e; exact R.sub b o e
  sl := fun i s e => by
    have q := R.sl i s e
    cases s with
    | un => trivial
    | da d =>
      obtain ⟨v, h1, h2⟩ := q
      exact ⟨v, h1, dp_mono (same_up h0) d v h2⟩
    | ow ds =>
      obtain ⟨b, ys, h1, h2, h3, h4, h5⟩ := q
      have np : b ≠ a := fun z => hs i ds e (by rw [h1, z])
      exact ⟨b, ys, h1, h2, dpa_mono (same_up h0) ds ys h3, by rw [upd_ne np]; exact h4, h5⟩
    | ja => exact q
    | jo c => exact q
  sep := R.sep
  fr := R.fr
  base := R.base.trans (same_up h0)
  fresh := fun b h1 h2 => by
    have np : b ≠ a := fun z => h2 (by rw [z]; exact he)
    rw [upd_ne np]
    exact R.fresh b h1 h2
  jar := R.jar
  jdom := R.jdom
  jx := R.jx
theorem get_set {α : Type} {l : List α} {i j : Nat} {x : α} : (l.set i x)[j]? = if i = j then (if i < l.length then some x else none) else l[j]? := List.getElem?_set
/-- a store of data -/
theorem Rp.set_da (R : Rp K J n σ H H0 ρ) {i : Nat} {d : D} (h : Dq K H0 v d) : Rp K J n (σ.set i (some v)) H H0 (ρ.set i (.da d)) where
  len := by rw [List.length_set, List.length_set]; exact R.len
  sub := R.sub
  sl := fun j s e => by
    rw [get_set] at e
    by_cases q : i = j
    · rw [if_pos q] at e
      by_cases l : i < ρ.length
      · rw [if_pos l] at e
        have z := Option.some.inj e
        subst z
        refine ⟨v, ?_, h⟩
        rw [get_set, if_pos q, if_pos (by rw [R.len]; exact l)]
      · rw [if_neg l] at e; cases e
    · rw [if_neg q] at e
      have z := R.sl j s e
      have g : (σ.set i (some v))[j]? = σ[j]? := by rw [get_set, if_neg q]
      cases s with
      | un => trivial
      | da d' => obtain ⟨u, h1, h2⟩ := z; exact ⟨u, by rw [g]; exact h1, h2⟩
      | ow ds => obtain ⟨a, xs, h1, h2⟩ := z; exact ⟨a, xs, by rw [g]; exact h1, h2⟩
      | ja => exact ⟨by rw [g]; exact z.1, z.2⟩
      | jo c => exact ⟨by rw [g]; exact z.1, z.2⟩
  sep := fun j k ds es hn e1 e2 => by
    rw [get_set] at e1 e2
    have n1 : i ≠ j := fun q => by
      rw [if_pos q] at e1
      split at e1 <;> cases e1
    have n2 : i ≠ k := fun q => by
      rw [if_pos q] at e2
      split at e2 <;> cases e2
    rw [if_neg n1] at e1
    rw [if_neg n2] at e2
    rw [get_set, get_set, if_neg n1, if_neg n2]
    exact R.sep j k ds es hn e1 e2
  fr := R.fr
  base := R.base
  fresh := R.fresh
  jar := R.jar
  jdom := R.jdom
  jx := fun k c e => by
    rw [get_set] at e
    by_cases q : i = k
    · rw [if_pos q] at e
      split at e <;> cases e
    · rw [if_neg q] at e
      exact R.jx k c e
/-- a slot of which nothing is known any more -/
theorem Rp.forget (R : Rp K J n σ H H0 ρ) (i : Nat) (x : Option V) : Rp K J n (σ.set i x) H H0 (ρ.set i .un) where
  len := by rw [List.length_set, List.length_set]; exact R.len
  sub := R.sub
  sl := fun j s e => by
    rw [get_set] at e
    by_cases q : i = j
    · rw [if_pos q] at e
      split at e
      · have z := Option.some.inj e
        subst z
        trivial
      · cases e
    · rw [if_neg q] at e
      have z := R.sl j s e
      have g : (σ.set i x)[j]? = σ[j]? := by rw [get_set, if_neg q]
      cases s with
      | un => trivial
      | da d' => obtain ⟨u, h1, h2⟩ := z; exact ⟨u, by rw [g]; exact h1, h2⟩
      | ow ds => obtain ⟨a, xs, h1, h2⟩ := z; exact ⟨a, xs, by rw [g]; exact h1, h2⟩
      | ja => exact ⟨by rw [g]; exact z.1, z.2⟩
      | jo c => exact ⟨by rw [g]; exact z.1, z.2⟩
  sep := fun j k ds es hn e1 e2 => by
    rw [get_set] at e1 e2
    have n1 : i ≠ j := fun q => by
      rw [if_pos q] at e1
      split at e1 <;> cases e1
    have n2 : i ≠ k := fun q => by
      rw [if_pos q] at e2
      split at e2 <;> cases e2
    rw [if_neg n1] at e1
    rw [if_neg n2] at e2
    rw [get_set, get_set, if_neg n1, if_neg n2]
    exact R.sep j k ds es hn e1 e2
  fr := R.fr
  base := R.base
  fresh := R.fresh
  jar := R.jar
  jdom := R.jdom
  jx := fun k c e => by
    rw [get_set] at e
    by_cases q : i = k
    · rw [if_pos q] at e
      split at e <;> cases e
    · rw [if_neg q] at e
      exact R.jx k c e
theorem set_get {α : Type} {l : List α} {i : Nat} {x : α} (h : l[i]? = some x) : l.set i x = l := by
  apply List.ext_getElem?
  intro j
  rw [get_set]
  by_cases q : i = j
  · subst q
    rw [if_pos rfl, if_pos (List.getElem?_eq_some_iff.mp h).1, h]
  · rw [if_neg q]
/-- the slot's own list is moved out -/
theorem Rp.drop (R : Rp K J n σ H H0 ρ) (i : Nat) : Rp K J n σ H H0 (ρ.set i .un) := by
  cases e : σ[i]? with
  | none =>
    have l : ¬ i < ρ.length := by
      have := List.getElem?_eq_none_iff.mp e
      have := R.len
      omega
    rw [List.set_eq_of_length_le (by omega)]
    exact R
  | some x =>
    have z := R.forget i x
    rw [set_get e] at z
    exact z
/-- a store of a new list -/
theorem Rp.set_ow (R : Rp K J n σ H H0 ρ) {i : Nat} {ds : List D} {a : Addr} {xs : List V} (h : H a = some (.lst xs)) (hd : DqAll K H0 xs ds) (h0 : H0 a = none) (he : n.He a = none) (hs : ∀ (j : Nat) (es : List D), ρ[j]? = some (Sl.ow es) → σ[j]? ≠ some (some (V.ref a))) :
    Rp K J n (σ.set i (some (.ref a))) H H0 (ρ.set i (.ow ds)) where
  len := by rw [List.length_set, List.length_set]; exact R.len
  sub := R.sub
  sl := fun j s e => by
    rw [get_set] at e
    by_cases q : i = j
    · rw [if_pos q] at e
      by_cases l : i < ρ.length
      · rw [if_pos l] at e
        have z := Option.some.inj e
        subst z
        refine ⟨a, xs, ?_, h, hd, h0, he⟩
        rw [get_set, if_pos q, if_pos (by rw [R.len]; exact l)]
      · rw [if_neg l] at e; cases e
    · rw [if_neg q] at e
      have z := R.sl j s e
      have g : (σ.set i (some (.ref a)))[j]? = σ[j]? := by rw [get_set, if_neg q]
      cases s with
      | un => trivial
      | da d' => obtain ⟨u, h1, h2⟩ := z; exact ⟨u, by rw [g]; exact h1, h2⟩
      | ow ds => obtain ⟨a, xs, h1, h2⟩ := z; exact ⟨a, xs, by rw [g]; exact h1, h2⟩
      | ja => exact ⟨by rw [g]; exact z.1, z.2⟩
      | jo c => exact ⟨by rw [g]; exact z.1, z.2⟩
  sep := fun j k ds es hn e1 e2 => by
    rw [get_set] at e1 e2
    rw [get_set, get_set]
    by_cases n1 : i = j
    · have n2 : ¬ i = k := fun q => hn (n1.symm.trans q)
      rw [if_pos n1] at e1 ⊢
      rw [if_neg n2] at e2 ⊢
      split at e1
      · rename_i l
        rw [if_pos (by rw [R.len]; exact l)]
        exact fun z => hs k es e2 z.symm
      · cases e1
    · rw [if_neg n1] at e1 ⊢
      by_cases n2 : i = k
      · rw [if_pos n2] at e2 ⊢
        split at e2
        · rename_i l
          rw [if_pos (by rw [R.len]; exact l)]
          exact fun z => hs j ds e1 z
        · cases e2
      · rw [if_neg n2] at e2 ⊢
        exact R.sep j k ds es hn e1 e2
  fr := R.fr
  base := R.base
  fresh := R.fresh
  jar := R.jar
  jdom := R.jdom
  jx := fun k c e => by
    rw [get_set] at e
    by_cases q : i = k
    · rw [if_pos q] at e
      split at e <;> cases e
    · rw [if_neg q] at e
      exact R.jx k c e
/-- the def's own list at slot i becomes another one -/
theorem Rp.own_put (R : Rp K J n σ H H0 ρ) {i : Nat} {ds es : List D} {a : Addr} {ys : List V} (e : ρ[i]? = some (.ow ds)) (hσ : σ[i]? = some (some (.ref a))) (hd : DqAll K H0 ys es) :
    Rp K J n σ (upd H a (.lst ys)) H0 (ρ.set i (.ow es)) := by
  obtain ⟨b, xs, h1, h2, h3, h4, h5⟩ := R.sl i _ e
  have q : b = a := by
    rw [h1] at hσ
    cases hσ
    rfl
  subst q
  have R1 : Rp K J n σ (upd H b (.lst ys)) H0 (ρ.set i .un) := by
    have D := R.drop i
    refine ⟨D.len, fun c o z => ?_, fun j s z => ?_, D.sep, fun c o hc z => ?_, D.base, D.fresh, fun z => ?_, D.jdom, D.jx⟩
    · have nb : c ≠ b := ne_of_none z h4
      rw [upd_ne nb]
      exact D.sub c o z
    · have w := D.sl j s z
      cases s with
      | un => trivial
      | da d => exact w
      | ow cs =>
        obtain ⟨c, zs, w1, w2, w3, w4, w5⟩ := w
        have nb : c ≠ b := fun t => by
          rw [get_set] at z
          by_cases ij : i = j
          · rw [if_pos ij] at z
            split at z <;> cases z
          · rw [if_neg ij] at z
            exact R.sep i j ds cs ij e z (by rw [h1, w1, t])
        exact ⟨c, zs, w1, by rw [upd_ne nb]; exact w2, w3, w4, w5⟩
      | ja => exact w
      | jo c => exact ⟨w.1, w.2.1, w.2.2.loc (fun c hc => upd_ne (fun t => (R.jdom c hc).2 (by rw [t]; exact h5))) (keep_upd h2 rfl)⟩
    · have nb : c ≠ b := ne_of_none z h5
      rw [upd_ne nb]
      exact D.fr c o hc z
    · exact J.loc (fun c hc => upd_ne (fun t => (R.jdom c hc).2 (by rw [t]; exact h5))) (keep_upd h2 rfl) (D.jar z)
  have z := R1.set_ow (i := i) (ds := es) (a := b) (xs := ys) upd_same hd h4 h5 (fun j cs w t => by
    rw [get_set] at w
    by_cases ij : i = j
    · rw [if_pos ij] at w
      split at w <;> cases w
    · rw [if_neg ij] at w
      exact R.sep i j ds cs ij e w (by rw [h1, t]))
  rw [set_get h1, List.set_set] at z
  exact z
theorem Rp.ret (R : Rp K J n σ H H0 ρ) (h : ResOk K n σ ρ H H0 v r) : RetOk K J n H v r := by
  refine ⟨H0, R.sub, R.fr, R.base, R.fresh, R.jar, ?_⟩
  cases r with
  | un => exact h
  | da d => exact h
  | ow ds =>
    obtain ⟨a, xs, h1, h2, h3, h4, h5, _⟩ := h
    exact ⟨a, xs, h1, h2, h3, h4, h5, fun i es e => by simp at e⟩
  | ja => exact h
  | jo c => exact h
/-- one object more to be kept -/
def En.keep (n : En) (p : Addr) (o : HO) : En := { n with He := upd n.He p o }
theorem Rp.keep (R : Rp K J n σ H H0 ρ) {p : Addr} {o : HO} (h : H p = some o) (h0 : H0 p = none) (he : n.He p = none) (hs : ∀ (i : Nat) (es : List D), ρ[i]? = some (Sl.ow es) → σ[i]? ≠ some (some (V.ref p))) : Rp K J (n.keep p o) σ H H0 ρ where
  len := R.len
  sub := R.sub
  sl := fun i s e => by
    have q := R.sl i s e
    cases s with
    | un => trivial
    | da d => exact q
    | ow ds =>
      obtain ⟨a, xs, h1, h2, h3, h4, h5⟩ := q
      have np : a ≠ p := fun z => hs i ds e (by rw [h1, z])
      exact ⟨a, xs, h1, h2, h3, h4, by show upd n.He p o a = none; rw [upd_ne np]; exact h5⟩
    | ja => exact q
    | jo c => exact q
  sep := R.sep
  fr := fun a u ha e => by
    have e' : upd n.He p o a = some u := e
    by_cases q : a = p
    · subst q; rw [upd_same] at e'; rw [h]; exact e'
    · rw [upd_ne q] at e'; exact R.fr a u ha e'
  base := R.base
  fresh := fun a h1 h2 => by
    have h2' : upd n.He p o a ≠ none := h2
    by_cases q : a = p
    · subst q; exact h0
    · rw [upd_ne q] at h2'; exact R.fresh a h1 h2'
  jar := R.jar
  jdom := fun a ha => ⟨(R.jdom a ha).1, by
    show upd n.He p o a ≠ none
    by_cases q : a = p
    · subst q; rw [upd_same]; intro z; cases z
    · rw [upd_ne q]; exact (R.jdom a ha).2⟩
  jx := R.jx
theorem Rp.unkeep {p : Addr} {o : HO} (he : n.He p = none) (jd : ∀ a ∈ n.as, n.H0 a = none ∧ n.He a ≠ none) (R : Rp K J (n.keep p o) σ H H0 ρ) : Rp K J n σ H H0 ρ where
  len := R.len
  sub := R.sub
  sl := fun i s e => by
    have q := R.sl i s e
    cases s with
    | un => trivial
    | da d => exact q
    | ow ds =>
      obtain ⟨a, xs, h1, h2, h3, h4, h5⟩ := q
      have h5' : upd n.He p o a = none := h5
      have np : a ≠ p := fun z => by rw [z, upd_same] at h5'; cases h5'
      rw [upd_ne np] at h5'
      exact ⟨a, xs, h1, h2, h3, h4, h5'⟩
    | ja => exact q
    | jo c => exact q
  sep := R.sep
  fr := fun a u ha e => R.fr a u ha (by
    show upd n.He p o a = some u
    rw [upd_ne (ne_of_none e he)]; exact e)
  base := R.base
  fresh := fun a h1 h2 => R.fresh a h1 (by
    show upd n.He p o a ≠ none
    rw [upd_ne (fun q => h2 (by rw [q]; exact he))]; exact h2)
  jar := R.jar
  jdom := jd
  jx := R.jx
theorem Rp.kept {p : Addr} {o : HO} (hp : p ∉ n.as) (R : Rp K J (n.keep p o) σ H H0 ρ) : H p = some o := R.fr p o hp (by show upd n.He p o p = some o; exact upd_same)
theorem Rp.kept0 {p : Addr} {o : HO} (h0 : n.H0 p = none) (R : Rp K J (n.keep p o) σ H H0 ρ) : H0 p = none := R.fresh p h0 (by show upd n.He p o p ≠ none; rw [upd_same]; intro z; cases z)
end
end Zd

set_option Elab.async false
set_option linter.all false
set_option maxRecDepth 100000
set_option maxHeartbeats 4000000
namespace Zd
open PySem PySem.Spec PyProof.Rows L2

/-! ### judgements: an expression with any result, with data, as a test; argument lists -/
abbrev QR := List Sl → (Sl → List Sl → Prop) → Prop
abbrev QD := List Sl → (D → List Sl → Prop) → Prop
abbrev QT := List Sl → (Bool → List Sl → Prop) → Prop
abbrev QL := List Sl → (List D → List Sl → Prop) → Prop
def tR (K : PySem.W.Frag) (J : Jr) (q : QR) : TE := fun σ H Q => ∃ (n : En) (H0 : Hp) (ρ : List Sl) (P : Sl → List Sl → Prop), Rp K J n σ H H0 ρ ∧ q ρ P ∧
  ∀ v H' H0' r ρ', Rp K J n σ H' H0' ρ' → Same H0 H0' → ResOk K n σ ρ' H' H0' v r → P r ρ' → Q v H'
def tD (K : PySem.W.Frag) (J : Jr) (q : QD) : TE := fun σ H Q => ∃ (n : En) (H0 : Hp) (ρ : List Sl) (P : D → List Sl → Prop), Rp K J n σ H H0 ρ ∧ q ρ P ∧
  ∀ v H' H0' d ρ', Rp K J n σ H' H0' ρ' → Same H0 H0' → Dq K H0' v d → P d ρ' → Q v H'
def tT (K : PySem.W.Frag) (J : Jr) (q : QT) : TT := fun σ H Q => ∃ (n : En) (H0 : Hp) (ρ : List Sl) (P : Bool → List Sl → Prop), Rp K J n σ H H0 ρ ∧ q ρ P ∧
  ∀ b H' H0' ρ', Rp K J n σ H' H0' ρ' → Same H0 H0' → P b ρ' → Q b H'
def tL (K : PySem.W.Frag) (J : Jr) (m : Nat) (q : QL) : TA := fun σ H Q => ∃ (n : En) (H0 : Hp) (ρ : List Sl) (P : List D → List Sl → Prop), Rp K J n σ H H0 ρ ∧ q ρ P ∧
  ∀ vs H' H0' ds ρ', Rp K J n σ H' H0' ρ' → Same H0 H0' → DqAll K H0' vs ds → ds.length = m → P ds ρ' → Q vs H'
/-- what is looked at: data, or a list that stands (the def's own, or a new one) -/
def Vw (K : PySem.W.Frag) (H H0 : Hp) (v : V) (d : D) : Prop := Dq K H0 v d ∨ ∃ a xs ds, d = .list ds ∧ v = .ref a ∧ H a = some (.lst xs) ∧ DqAll K H0 xs ds
def tV (K : PySem.W.Frag) (J : Jr) (q : QD) : TE := fun σ H Q => ∃ (n : En) (H0 : Hp) (ρ : List Sl) (P : D → List Sl → Prop), Rp K J n σ H H0 ρ ∧ q ρ P ∧
  ∀ v H' H0' d ρ', Rp K J n σ H' H0' ρ' → Same H0 H0' → Vw K H' H0' v d → P d ρ' → Q v H'
theorem Vw.tup {K : PySem.W.Frag} {H H0 : Hp} {v : V} {ds : List D} (h : Vw K H H0 v (.tuple ds)) : ∃ a xs, v = .ref a ∧ SqT K H0 a xs ∧ DqAll K H0 xs ds := by
  rcases h with h | ⟨a, xs, es, h, _⟩
  · exact dp_tup h
  · cases h
theorem Vw.lst {K : PySem.W.Frag} {H H0 : Hp} {v : V} {ds : List D} (e : Same H0 H) (h : Vw K H H0 v (.list ds)) : ∃ a xs, v = .ref a ∧ SqL K H a xs ∧ DqAll K H0 xs ds := by
  rcases h with h | ⟨a, xs, es, h, rfl, h1, h2⟩
  · obtain ⟨a, xs, h1, h2, h3⟩ := dp_lst h
    exact ⟨a, xs, h1, e.seq h2, h3⟩
  · cases h
    exact ⟨a, xs, rfl, SqL.of h1, h2⟩
theorem Vw.dp {K : PySem.W.Frag} {H H0 : Hp} {v : V} {d : D} (h : Vw K H H0 v d) (hd : ∀ ds, d ≠ .list ds) : Dq K H0 v d := by
  rcases h with h | ⟨a, xs, es, h, _⟩
  · exact h
  · exact absurd h (hd es)
section
variable {X : Cx} {J : Jr} {e a b c : Expr} {es : List Expr} {pos : Pos}
theorem pe_mono {t t' : TE} (h : PE X e t) (i : ∀ σ H Q, t' σ H Q → t σ H Q) : PE X e t' := ⟨fun pins s σ H Q I w => h.run pins s σ H Q I (i _ _ _ w)⟩
theorem pt_mono {t t' : TT} (h : PT X e t) (i : ∀ σ H Q, t' σ H Q → t σ H Q) : PT X e t' := ⟨fun pins s σ H Q I w => h.run pins s σ H Q I (i _ _ _ w)⟩
theorem pa_mono {t t' : TA} (h : PA X es t) (i : ∀ σ H Q, t' σ H Q → t σ H Q) : PA X es t' := ⟨fun pos pins s σ H Q I w => h.run pos pins s σ H Q I (i _ _ _ w)⟩
abbrev PR (J : Jr) (X : Cx) (e : Expr) (q : QR) : Prop := PE X e (tR X.K J q)
abbrev PD (J : Jr) (X : Cx) (e : Expr) (q : QD) : Prop := PE X e (tD X.K J q)
abbrev PV (J : Jr) (X : Cx) (e : Expr) (q : QD) : Prop := PE X e (tV X.K J q)
abbrev PB (J : Jr) (X : Cx) (e : Expr) (q : QT) : Prop := PT X e (tT X.K J q)
abbrev PL (J : Jr) (X : Cx) (es : List Expr) (m : Nat) (q : QL) : Prop := PA X es (tL X.K J m q)
/-- data as a result -/
def qRD (q : QD) : QR := fun ρ P => q ρ fun d ρ' => P (.da d) ρ'
theorem pr_of {q : QD} (h : PD J X e q) : PR J X e (qRD q) := pe_mono h fun σ H Q ⟨n, H0, ρ, P, R, w, k⟩ =>
  ⟨n, H0, ρ, _, R, w, fun v H' H0' d ρ' R' S' hd hp => k v H' H0' (.da d) ρ' R' S' hd hp⟩
/-- any result as data: a new list is frozen -/
def asD (r : Sl) (P : D → Prop) : Prop := match r with
  | .da d => P d
  | .ow ds => P (.list ds)
  | _ => False
def qDR (q : QR) : QD := fun ρ P => q ρ fun r ρ' => asD r fun d => P d ρ'
theorem pd_of {q : QR} (h : PR J X e q) : PD J X e (qDR q) := pe_mono h fun σ H Q ⟨n, H0, ρ, P, R, w, k⟩ => by
  refine ⟨n, H0, ρ, _, R, w, fun v H' H0' r ρ' R' S' hr hp => ?_⟩
  cases r with
  | un => exact hp.elim
  | da d => exact k v H' H0' d ρ' R' S' hr hp
  | ow ds =>
    obtain ⟨a, xs, rfl, h1, h2, h3, h4, h5⟩ := hr
    exact k _ H' _ (.list ds) ρ' (R'.freeze h1 h3 h4 h5) (S'.trans (same_up h3)) (.lst (SqL.of upd_same) (dpa_mono (same_up h3) ds xs h2)) hp
  | ja => exact hp.elim
  | jo c => exact hp.elim
/-- any result, looked at -/
theorem pv_of {q : QR} (h : PR J X e q) : PV J X e (qDR q) := pe_mono h fun σ H Q ⟨n, H0, ρ, P, R, w, k⟩ => by
  refine ⟨n, H0, ρ, _, R, w, fun v H' H0' r ρ' R' S' hr hp => ?_⟩
  cases r with
  | un => exact hp.elim
  | da d => exact k v H' H0' d ρ' R' S' (.inl hr) hp
  | ow ds =>
    obtain ⟨a, xs, rfl, h1, h2, h3, h4, h5⟩ := hr
    exact k _ H' H0' (.list ds) ρ' R' S' (.inr ⟨a, xs, ds, rfl, rfl, h1, h2⟩) hp
  | ja => exact hp.elim
  | jo c => exact hp.elim
theorem pv_ofD {q : QD} (h : PD J X e q) : PV J X e q := pe_mono h fun σ H Q ⟨n, H0, ρ, P, R, w, k⟩ =>
  ⟨n, H0, ρ, P, R, w, fun v H' H0' d ρ' R' S' hd hp => k v H' H0' d ρ' R' S' (.inl hd) hp⟩

/-! ### names -/
def seeD (s : Option Sl) (P : D → Prop) : Prop := match s with
  | some (.da d) => P d
  | some (.ow ds) => P (.list ds)
  | _ => False
/-- the slot's list is data from here on -/
def frz (ρ : List Sl) (i : Nat) : List Sl := match ρ[i]? with
  | some (.ow ds) => ρ.set i (.da (.list ds))
  | _ => ρ
def qLook (i : Nat) : QD := fun ρ P => seeD ρ[i]? fun d => P d ρ
def qVar (i : Nat) : QD := fun ρ P => seeD ρ[i]? fun d => P d (frz ρ i)
def qMove (i : Nat) : QR := fun ρ P => match ρ[i]? with
  | some (.da d) => P (.da d) ρ
  | some (.ow ds) => P (.ow ds) (ρ.set i .un)
  | _ => False
theorem Rp.frz1 {K : PySem.W.Frag} {n : En} {σ : L2.St} {H H0 : Hp} {ρ : List Sl} (R : Rp K J n σ H H0 ρ) (i : Nat) : ∃ H0', Same H0 H0' ∧ Rp K J n σ H H0' (frz ρ i) ∧
    ∀ d, seeD ρ[i]? (fun x => x = d) → ∃ v, σ[i]? = some (some v) ∧ Dq K H0' v d ∧ (frz ρ i)[i]? = some (.da d) := by
  unfold frz
  cases e : ρ[i]? with
  | none => exact ⟨H0, .refl _, R, fun d h => h.elim⟩
  | some s =>
    cases s with
    | un => exact ⟨H0, .refl _, R, fun d h => h.elim⟩
    | ja => exact ⟨H0, .refl _, R, fun d h => h.elim⟩
    | jo c => exact ⟨H0, .refl _, R, fun d h => h.elim⟩
    | da d =>
      obtain ⟨v, h1, h2⟩ := R.sl i _ e
      exact ⟨H0, .refl _, R, fun d' h => by cases (show d = d' from h); exact ⟨v, h1, h2, e⟩⟩
    | ow ds =>
      obtain ⟨a, xs, h1, h2, h3, h4, h5⟩ := R.sl i _ e
      have R1 := (R.drop i).freeze h2 h4 h5 (fun j es w t => by
        rw [get_set] at w
        by_cases ij : i = j
        · rw [if_pos ij] at w
          split at w <;> cases w
        · rw [if_neg ij] at w
          exact R.sep i j ds es ij e w (by rw [h1, t]))
      have hd : Dq K (upd H0 a (.lst xs)) (.ref a) (.list ds) := .lst (SqL.of upd_same) (dpa_mono (same_up h4) ds xs h3)
      have R2 := R1.set_da (i := i) hd
      rw [set_get h1, List.set_set] at R2
      refine ⟨_, same_up h4, R2, fun d h => ?_⟩
      cases (show PyData.list ds = d from h)
      refine ⟨.ref a, h1, hd, ?_⟩
      rw [get_set, if_pos rfl, if_pos (List.getElem?_eq_some_iff.mp e).1]
theorem pd_var {i : Nat} (h : PE X e (tVar i)) : PD J X e (qVar i) := pe_mono h fun σ H Q ⟨n, H0, ρ, P, R, w, k⟩ => by
  obtain ⟨H0', S', R', f⟩ := R.frz1 i
  have w' : seeD ρ[i]? fun d => P d (frz ρ i) := w
  cases e : ρ[i]? with
  | none => rw [e] at w'; exact w'.elim
  | some s =>
    rw [e] at w' f
    cases s with
    | un => exact w'.elim
    | ja => exact w'.elim
    | jo c => exact w'.elim
    | da d =>
      obtain ⟨v, h1, h2, _⟩ := f d rfl
      exact ⟨v, h1, k v H H0' d _ R' S' h2 w'⟩
    | ow ds =>
      obtain ⟨v, h1, h2, _⟩ := f _ rfl
      exact ⟨v, h1, k v H H0' _ _ R' S' h2 w'⟩
theorem pv_var {i : Nat} (h : PE X e (tVar i)) : PV J X e (qLook i) := pe_mono h fun σ H Q ⟨n, H0, ρ, P, R, w, k⟩ => by
  have w' : seeD ρ[i]? fun d => P d ρ := w
  cases e : ρ[i]? with
  | none => rw [e] at w'; exact w'.elim
  | some s =>
    rw [e] at w'
    have q := R.sl i s e
    cases s with
    | un => exact w'.elim
    | ja => exact w'.elim
    | jo c => exact w'.elim
    | da d =>
      obtain ⟨v, h1, h2⟩ := q
      exact ⟨v, h1, k v H H0 d ρ R (.refl _) (.inl h2) w'⟩
    | ow ds =>
      obtain ⟨a, xs, h1, h2, h3, h4, h5⟩ := q
      exact ⟨.ref a, h1, k _ H H0 _ ρ R (.refl _) (.inr ⟨a, xs, ds, rfl, rfl, h2, h3⟩) w'⟩
theorem pr_var {i : Nat} (h : PE X e (tVar i)) : PR J X e (qMove i) := pe_mono h fun σ H Q ⟨n, H0, ρ, P, R, w, k⟩ => by
  unfold qMove at w
  cases e : ρ[i]? with
  | none => rw [e] at w; exact w.elim
  | some s =>
    rw [e] at w
    have q := R.sl i s e
    cases s with
    | un => exact w.elim
    | ja => exact w.elim
    | jo c => exact w.elim
    | da d =>
      obtain ⟨v, h1, h2⟩ := q
      exact ⟨v, h1, k v H H0 (.da d) ρ R (.refl _) h2 w⟩
    | ow ds =>
      obtain ⟨a, xs, h1, h2, h3, h4, h5⟩ := q
      refine ⟨.ref a, h1, k _ H H0 (.ow ds) _ (R.drop i) (.refl _) ⟨a, xs, rfl, h2, h3, h4, h5, fun j es w t => ?_⟩ w⟩
      rw [get_set] at w
      by_cases ij : i = j
      · rw [if_pos ij] at w
        split at w <;> cases w
      · rw [if_neg ij] at w
        exact R.sep i j ds es ij e w (by rw [h1, t])
def qC (d : D) : QD := fun ρ P => P d ρ
theorem pd_c {v : V} {d : D} (h : PE X e (tC v)) (hd : ∀ H0, Dq X.K H0 v d) : PD J X e (qC d) := pe_mono h fun σ H Q ⟨n, H0, ρ, P, R, w, k⟩ => k v H H0 d ρ R (.refl _) (hd H0) w
theorem pd_int {i : Int} {j : Nat} : PD J X (.Constant (.int i) j pos) (qC (.int i)) := pd_c pe_int fun _ => .int _
theorem pd_str {x : Str} {j : Nat} : PD J X (.Constant (.str x) j pos) (qC (.str x)) := pd_c pe_str fun _ => .str _
theorem pd_bl {x : Bool} {j : Nat} : PD J X (.Constant (.bool x) j pos) (qC (.bool x)) := pd_c pe_bl fun _ => .bl _
theorem pd_non {j : Nat} : PD J X (.Constant .none j pos) (qC .none) := pd_c pe_non fun _ => .non

/-! ### two-place operations -/
abbrev DOp := D → D → (Sl → Prop) → Prop
theorem Vw.of {K : PySem.W.Frag} {H H0 : Hp} {v : V} {d : D} (h : Dq K H0 v d) : Vw K H H0 v d := .inl h
theorem Vw.at {K : PySem.W.Frag} {H H0 : Hp} {v : V} {d : D} (e : Same H0 H) (h : Vw K H H0 v d) : Dq K H v d := by
  rcases h with h | ⟨a, xs, es, rfl, rfl, h1, h2⟩
  · exact dp_mono e d v h
  · exact .lst (SqL.of h1) (dpa_mono e es xs h2)
/-- r does to values what f does to data -/
def OpIs (K : PySem.W.Frag) (J : Jr) (r : R2) (f : DOp) : Prop := ∀ n σ H H0 ρ x y d e P (Q : VK), Rp K J n σ H H0 ρ → Vw K H H0 x d → Vw K H H0 y e → f d e P →
  (∀ v H' H0' s, Rp K J n σ H' H0' ρ → Same H0 H0' → ResOk K n σ ρ H' H0' v s → P s → Q v H') → r x y H Q
def DopOk (J : Jr) (X : Cx) (o : Value → Value → Sem Value) (f : DOp) : Prop := ∃ r, OpR X o r ∧ OpIs X.K J r f
def qBin (f : DOp) (qa qb : QD) : QR := fun ρ P => qa ρ fun d ρ1 => qb ρ1 fun e ρ2 => f d e fun s => P s ρ2
/-- the left one is a name: it is looked at when the right one is known -/
def qBinN (f : DOp) (i : Nat) (qb : QD) : QR := fun ρ P => qb ρ fun e ρ2 => seeD ρ2[i]? fun d => f d e fun s => P s ρ2
theorem Rp.see {K : PySem.W.Frag} {n : En} {σ : L2.St} {H H0 : Hp} {ρ : List Sl} (R : Rp K J n σ H H0 ρ) {i : Nat} {P : D → Prop} (h : seeD ρ[i]? P) : ∃ v d, σ[i]? = some (some v) ∧ Vw K H H0 v d ∧ P d := by
  cases e : ρ[i]? with
  | none => rw [e] at h; exact h.elim
  | some s =>
    rw [e] at h
    have q := R.sl i s e
    cases s with
    | un => exact h.elim
    | ja => exact h.elim
    | jo c => exact h.elim
    | da d =>
      obtain ⟨v, h1, h2⟩ := q
      exact ⟨v, d, h1, .inl h2, h⟩
    | ow ds =>
      obtain ⟨a, xs, h1, h2, h3, h4, h5⟩ := q
      exact ⟨_, _, h1, .inr ⟨a, xs, ds, rfl, rfl, h2, h3⟩, h⟩
/-- a reading of a name whose slot has something -/
def hasV (σ : L2.St) (i : Nat) : Prop := ∃ v, σ[i]? = some (some v)
theorem bin_mono {r : R2} {f : DOp} {qa qb : QD} (hr : OpIs X.K J r f) : ∀ σ H Q, tR X.K J (qBin f qa qb) σ H Q → tOp r (tD X.K J qa) (tV X.K J qb) σ H Q := fun σ H Q ⟨n, H0, ρ, P, R, w, k⟩ =>
  ⟨n, H0, ρ, _, R, w, fun x H1 H01 d ρ1 R1 S1 hd w1 => ⟨n, H01, ρ1, _, R1, w1, fun y H2 H02 e ρ2 R2 S2 he w2 =>
    hr n σ H2 H02 ρ2 x y d e _ Q R2 (.of (dp_mono S2 d x hd)) he w2 fun v H' H0' s R' S' hs hp => k v H' H0' s ρ2 R' ((S1.trans S2).trans S') hs hp⟩⟩
theorem binN_mono {r : R2} {f : DOp} {i : Nat} {qb : QD} (hr : OpIs X.K J r f) : ∀ σ H Q, hasV σ i → tR X.K J (qBinN f i qb) σ H Q → tOp r (tVar i) (tV X.K J qb) σ H Q := fun σ H Q hv ⟨n, H0, ρ, P, R, w, k⟩ => by
  obtain ⟨x, hx⟩ := hv
  refine ⟨x, hx, n, H0, ρ, _, R, w, fun y H2 H02 e ρ2 R2 S2 he w2 => ?_⟩
  obtain ⟨x', d, h1, h2, h3⟩ := R2.see w2
  rw [hx] at h1
  cases h1
  exact hr n σ H2 H02 ρ2 x y d e _ Q R2 h2 he h3 fun v H' H0' s R' S' hs hp => k v H' H0' s ρ2 R' (S2.trans S') hs hp
/-- the slot is known ahead, too -/
def known (ρ : List Sl) (i : Nat) : Prop := match ρ[i]? with
  | some (.da _) => True
  | some (.ow _) => True
  | _ => False
theorem Rp.hasV {K : PySem.W.Frag} {n : En} {σ : L2.St} {H H0 : Hp} {ρ : List Sl} (R : Rp K J n σ H H0 ρ) {i : Nat} (h : known ρ i) : hasV σ i := by
  unfold known at h
  cases e : ρ[i]? with
  | none => rw [e] at h; exact h.elim
  | some s =>
    rw [e] at h
    have q := R.sl i s e
    cases s with
    | un => exact h.elim
    | ja => exact h.elim
    | jo c => exact h.elim
    | da d => obtain ⟨v, h1, _⟩ := q; exact ⟨v, h1⟩
    | ow ds => obtain ⟨a, xs, h1, _⟩ := q; exact ⟨_, h1⟩
/-- as qBinN, and the slot is known ahead -/
def qBinM (f : DOp) (i : Nat) (qb : QD) : QR := fun ρ P => known ρ i ∧ qBinN f i qb ρ P
theorem binM_mono {r : R2} {f : DOp} {i : Nat} {qb : QD} (hr : OpIs X.K J r f) : ∀ σ H Q, tR X.K J (qBinM f i qb) σ H Q → tOp r (tVar i) (tV X.K J qb) σ H Q := fun σ H Q ⟨n, H0, ρ, P, R, w, k⟩ =>
  binN_mono hr σ H Q (R.hasV w.1) ⟨n, H0, ρ, P, R, w.2, k⟩
theorem pr_bin {op : Operator} {f : DOp} {qa qb : QD} (ho : DopOk J X (binaryOp op) f) (ha : PD J X a qa) (hb : PV J X b qb) : PR J X (.BinOp a op b pos) (qBin f qa qb) := by
  obtain ⟨r, h1, h2⟩ := ho
  exact pe_mono (pe_op h1 ha hb) (bin_mono h2)
theorem pr_binN {op : Operator} {f : DOp} {i : Nat} {qb : QD} (ho : DopOk J X (binaryOp op) f) (ha : PE X a (tVar i)) (hb : PV J X b qb) : PR J X (.BinOp a op b pos) (qBinM f i qb) := by
  obtain ⟨r, h1, h2⟩ := ho
  exact pe_mono (pe_op h1 ha hb) (binM_mono h2)
theorem pr_cmp {op : CmpOp} {f : DOp} {qa qb : QD} (ho : DopOk J X (compareOp op) f) (hm : behindInMarks op b = false) (ha : PD J X a qa) (hb : PV J X b qb) : PR J X (.Compare a [op] [b] pos) (qBin f qa qb) := by
  obtain ⟨r, h1, h2⟩ := ho
  exact pe_mono (pe_cmpR h1 ha hb hm) (bin_mono h2)
theorem pr_cmpN {op : CmpOp} {f : DOp} {i : Nat} {qb : QD} (ho : DopOk J X (compareOp op) f) (hm : behindInMarks op b = false) (ha : PE X a (tVar i)) (hb : PV J X b qb) : PR J X (.Compare a [op] [b] pos) (qBinM f i qb) := by
  obtain ⟨r, h1, h2⟩ := ho
  exact pe_mono (pe_cmpR h1 ha hb hm) (binM_mono h2)
/-- a truth value of data -/
def truD : D → Option Bool
  | .none => some false
  | .bool b => some b
  | .int i => some (i != 0)
  | .str x => some ((x.length : Int) != 0)
  | .list ds => some !ds.isEmpty
  | .tuple ds => some !ds.isEmpty
  | .dict _ => Option.none
def isB (r : Sl) (P : Bool → Prop) : Prop := match r with
  | .da (.bool b) => P b
  | _ => False
def qTst (q : QR) : QT := fun ρ P => q ρ fun r ρ' => isB r fun b => P b ρ'
theorem tst_mono {q : QR} {t : TE} (hm : ∀ σ H Q, tR X.K J q σ H Q → t σ H Q) : ∀ σ H Q, tT X.K J (qTst q) σ H Q → tTest t σ H Q := fun σ H Q ⟨n, H0, ρ, P, R, w, k⟩ => by
  refine hm σ H _ ⟨n, H0, ρ, _, R, w, fun v H' H0' s ρ' R' S' hs hp => ?_⟩
  cases s with
  | un => exact hp.elim
  | ow ds => exact hp.elim
  | ja => exact hp.elim
  | jo c => exact hp.elim
  | da d =>
    cases d with
    | bool b =>
      have e := dp_bool hs
      subst e
      exact ⟨b, rfl, k b H' H0' ρ' R' S' hp⟩
    | _ => exact hp.elim
theorem pb_cmp {op : CmpOp} {f : DOp} {qa qb : QD} (ho : DopOk J X (compareOp op) f) (hm : behindInMarks op b = false) (ha : PD J X a qa) (hb : PV J X b qb) : PB J X (.Compare a [op] [b] pos) (qTst (qBin f qa qb)) := by
  obtain ⟨r, h1, h2⟩ := ho
  exact pt_mono (pt_cmpR h1 ha hb hm) (tst_mono (bin_mono h2))
theorem pb_cmpN {op : CmpOp} {f : DOp} {i : Nat} {qb : QD} (ho : DopOk J X (compareOp op) f) (hm : behindInMarks op b = false) (ha : PE X a (tVar i)) (hb : PV J X b qb) : PB J X (.Compare a [op] [b] pos) (qTst (qBinM f i qb)) := by
  obtain ⟨r, h1, h2⟩ := ho
  exact pt_mono (pt_cmpR h1 ha hb hm) (tst_mono (binM_mono h2))
/-- an expression that is no comparison as a test -/
def truP (d : D) (P : Bool → Prop) : Prop := match d with
  | .bool b => P b
  | .str x => x.length ≤ sizeLine ∧ P ((x.length : Int) != 0)
  | .none => P false
  | .int i => P (i != 0)
  | .list ds => P (!ds.isEmpty)
  | .tuple ds => P (!ds.isEmpty)
  | .dict _ => False
def qTru (q : QD) : QT := fun ρ P => q ρ fun d ρ' => truP d fun b => P b ρ'
theorem dpa_empty {K : PySem.W.Frag} {H : Hp} {ds : List D} {xs : List V} (h : DqAll K H xs ds) : ds.isEmpty = xs.isEmpty := by
  cases h <;> rfl
theorem pb_tru {q : QD} (ha : PD J X e q) (he : ∀ whole, isTrue e X.env whole = (do let v ← whole; standAt e.pos; holding [v] (truthy v))) : PB J X e (qTru q) := by
  refine pt_mono (pt_truth ha he) fun σ H Q ⟨n, H0, ρ, P, R, w, k⟩ => ⟨n, H0, ρ, _, R, w, fun v H' H0' d ρ' R' S' hd hp => ?_⟩
  cases d with
  | none => have e := dp_none hd; subst e; exact ⟨_, rfl, k _ H' H0' ρ' R' S' hp⟩
  | bool b => have e := dp_bool hd; subst e; exact ⟨_, rfl, k _ H' H0' ρ' R' S' hp⟩
  | int b => have e := dp_int hd; subst e; exact ⟨_, rfl, k _ H' H0' ρ' R' S' hp⟩
  | str b => have e := dp_str hd; subst e; exact ⟨_, ⟨hp.1, rfl⟩, k _ H' H0' ρ' R' S' hp.2⟩
  | list ds =>
    obtain ⟨a, xs, rfl, h1, h2⟩ := dp_lst hd
    have hp' : P (!ds.isEmpty) ρ' := hp
    rw [dpa_empty h2] at hp'
    exact ⟨_, .inl ⟨xs, R'.sub.seq h1, rfl⟩, k _ H' H0' ρ' R' S' hp'⟩
  | tuple ds =>
    obtain ⟨a, xs, rfl, h1, h2⟩ := dp_tup hd
    have hp' : P (!ds.isEmpty) ρ' := hp
    rw [dpa_empty h2] at hp'
    exact ⟨_, .inr (.inl ⟨xs, same_t R'.sub h1, rfl⟩), k _ H' H0' ρ' R' S' hp'⟩
  | dict _ => exact hp.elim
def qAnd (qa qb : QT) : QT := fun ρ P => qa ρ fun b ρ' => if b = true then qb ρ' P else P false ρ'
def qOr (qa qb : QT) : QT := fun ρ P => qa ρ fun b ρ' => if b = true then P true ρ' else qb ρ' P
def qNot (qa : QT) : QT := fun ρ P => qa ρ fun b ρ' => P (!b) ρ'
abbrev PWd (J : Jr) (X : Cx) (e : Expr) (q : QT) : Prop := PW X e (tT X.K J q)
theorem pw_mono {t t' : TT} (h : PW X e t) (i : ∀ σ H Q, t' σ H Q → t σ H Q) : PW X e t' := ⟨fun wh pins s σ H Q I w => h.run wh pins s σ H Q I (i _ _ _ w)⟩
theorem pwd_and1 {qa : QT} (ha : PB J X a qa) : PWd J X (.BoolOp .And [a] pos) qa := pw_and1 ha
theorem pwd_or1 {qa : QT} (ha : PB J X a qa) : PWd J X (.BoolOp .Or [a] pos) qa := pw_or1 ha
theorem pwd_and {qa qb : QT} {rest : List Expr} (ha : PB J X a qa) (hb : PWd J X (.BoolOp .And (b :: rest) pos) qb) : PWd J X (.BoolOp .And (a :: b :: rest) pos) (qAnd qa qb) :=
  pw_mono (pw_and ha hb) fun σ H Q ⟨n, H0, ρ, P, R, w, k⟩ => ⟨n, H0, ρ, _, R, w, fun c H1 H01 ρ1 R1 S1 w1 => by
    cases c with
    | true => exact ⟨n, H01, ρ1, P, R1, w1, fun b H' H0' ρ' R' S' hp => k b H' H0' ρ' R' (S1.trans S') hp⟩
    | false => exact k _ H1 H01 ρ1 R1 S1 w1⟩
theorem pwd_or {qa qb : QT} {rest : List Expr} (ha : PB J X a qa) (hb : PWd J X (.BoolOp .Or (b :: rest) pos) qb) : PWd J X (.BoolOp .Or (a :: b :: rest) pos) (qOr qa qb) :=
  pw_mono (pw_or ha hb) fun σ H Q ⟨n, H0, ρ, P, R, w, k⟩ => ⟨n, H0, ρ, _, R, w, fun c H1 H01 ρ1 R1 S1 w1 => by
    cases c with
    | true => exact k _ H1 H01 ρ1 R1 S1 w1
    | false => exact ⟨n, H01, ρ1, P, R1, w1, fun b H' H0' ρ' R' S' hp => k b H' H0' ρ' R' (S1.trans S') hp⟩⟩
theorem pb_w {q : QT} (h : PWd J X e q) : PB J X e q := PW.pt h
theorem pb_not {qa : QT} (ha : PB J X a qa) : PB J X (.UnaryOp .Not a pos) (qNot qa) := pt_mono (pt_not ha) fun σ H Q ⟨n, H0, ρ, P, R, w, k⟩ => ⟨n, H0, ρ, _, R, w, fun b H' H0' ρ' R' S' hp => k (!b) H' H0' ρ' R' S' hp⟩
/-- and, or, not of bools as values -/
def qAndV (qa qb : QD) : QD := fun ρ P => qa ρ fun d ρ' => ∃ c, d = .bool c ∧ if c = true then qb ρ' P else P (.bool false) ρ'
def qOrV (qa qb : QD) : QD := fun ρ P => qa ρ fun d ρ' => ∃ c, d = .bool c ∧ if c = true then P (.bool true) ρ' else qb ρ' P
def qNotV (qa : QD) : QD := fun ρ P => qa ρ fun d ρ' => ∃ c, d = .bool c ∧ P (.bool (!c)) ρ'
theorem pd_one {op : BoolOp} {q : QD} (h : PD J X a q) : PD J X (.BoolOp op [a] pos) q := pe_one h
theorem pd_and {qa qb : QD} {rest : List Expr} (ha : PD J X a qa) (hb : PD J X (.BoolOp .And (b :: rest) pos) qb) : PD J X (.BoolOp .And (a :: b :: rest) pos) (qAndV qa qb) :=
  pe_mono (pe_and ha hb) fun σ H Q ⟨n, H0, ρ, P, R, w, k⟩ => ⟨n, H0, ρ, _, R, w, fun x H1 H01 d ρ1 R1 S1 hd w1 => by
    obtain ⟨c, rfl, w1⟩ := w1
    refine ⟨c, dp_bool hd, ?_⟩
    cases c with
    | true => exact ⟨n, H01, ρ1, P, R1, w1, fun v H' H0' d ρ' R' S' hd hp => k v H' H0' d ρ' R' (S1.trans S') hd hp⟩
    | false => exact k _ H1 H01 _ ρ1 R1 S1 (.bl _) w1⟩
theorem pd_or {qa qb : QD} {rest : List Expr} (ha : PD J X a qa) (hb : PD J X (.BoolOp .Or (b :: rest) pos) qb) : PD J X (.BoolOp .Or (a :: b :: rest) pos) (qOrV qa qb) :=
  pe_mono (pe_or ha hb) fun σ H Q ⟨n, H0, ρ, P, R, w, k⟩ => ⟨n, H0, ρ, _, R, w, fun x H1 H01 d ρ1 R1 S1 hd w1 => by
    obtain ⟨c, rfl, w1⟩ := w1
    refine ⟨c, dp_bool hd, ?_⟩
    cases c with
    | true => exact k _ H1 H01 _ ρ1 R1 S1 (.bl _) w1
    | false => exact ⟨n, H01, ρ1, P, R1, w1, fun v H' H0' d ρ' R' S' hd hp => k v H' H0' d ρ' R' (S1.trans S') hd hp⟩⟩
theorem pd_not {qa : QD} (ha : PD J X a qa) : PD J X (.UnaryOp .Not a pos) (qNotV qa) :=
  pe_mono (pe_not ha) fun σ H Q ⟨n, H0, ρ, P, R, w, k⟩ => ⟨n, H0, ρ, _, R, w, fun x H1 H01 d ρ1 R1 S1 hd w1 => by
    obtain ⟨c, rfl, w1⟩ := w1
    exact ⟨c, dp_bool hd, k _ H1 H01 _ ρ1 R1 S1 (.bl _) w1⟩⟩
def qIf (qt : QT) (qa qb : QR) : QR := fun ρ P => qt ρ fun b ρ' => if b = true then qa ρ' P else qb ρ' P
theorem pr_if {qt : QT} {qa qb : QR} (hc : PB J X c qt) (ha : PR J X a qa) (hb : PR J X b qb) : PR J X (.IfExp c a b pos) (qIf qt qa qb) :=
  pe_mono (pe_ifExp hc ha hb) fun σ H Q ⟨n, H0, ρ, P, R, w, k⟩ => ⟨n, H0, ρ, _, R, w, fun x H1 H01 ρ1 R1 S1 w1 => by
    cases x with
    | true => exact ⟨n, H01, ρ1, P, R1, w1, fun v H' H0' r ρ' R' S' hr hp => k v H' H0' r ρ' R' (S1.trans S') hr hp⟩
    | false => exact ⟨n, H01, ρ1, P, R1, w1, fun v H' H0' r ρ' R' S' hr hp => k v H' H0' r ρ' R' (S1.trans S') hr hp⟩⟩

/-! ### written tuples, lists -/
def qNil : QL := fun ρ P => P [] ρ
def qCons (qa : QD) (qr : QL) : QL := fun ρ P => qa ρ fun d ρ1 => qr ρ1 fun ds ρ2 => P (d :: ds) ρ2
theorem pl_nil : PL J X [] 0 qNil := pa_mono pa_nil fun σ H Q ⟨n, H0, ρ, P, R, w, k⟩ => k [] H H0 [] ρ R (.refl _) .nil rfl w
theorem pl_cons {m : Nat} {qa : QD} {qr : QL} (ha : PD J X e qa) (hr : PL J X es m qr) (hs : starEach (e :: es) X.env = (false, eval e X.env) :: starEach es X.env := by rfl) : PL J X (e :: es) (m + 1) (qCons qa qr) :=
  pa_mono (pa_cons ha hr hs) fun σ H Q ⟨n, H0, ρ, P, R, w, k⟩ => ⟨n, H0, ρ, _, R, w, fun x H1 H01 d ρ1 R1 S1 hd w1 => ⟨n, H01, ρ1, _, R1, w1, fun xs H2 H02 ds ρ2 R2 S2 hds hl w2 =>
    k (x :: xs) H2 H02 (d :: ds) ρ2 R2 (S1.trans S2) (.cons (dp_mono S2 d x hd) hds) (by rw [List.length_cons, hl]) w2⟩⟩
def qTup (q : QL) : QD := fun ρ P => q ρ fun ds ρ' => P (.tuple ds) ρ'
def qLst (q : QL) : QR := fun ρ P => q ρ fun ds ρ' => P (.ow ds) ρ'
theorem pd_tup {m : Nat} {x1 : Nat} {q : QL} (h : PL J X es m q) (hm : decide (m ≤ 1000) = true) : PD J X (.Tuple es x1 pos) (qTup q) :=
  pe_mono (pe_tup h) fun σ H Q ⟨n, H0, ρ, P, R, w, k⟩ => ⟨n, H0, ρ, _, R, w, fun xs H1 H01 ds ρ1 R1 S1 hds hl w1 => by
    have e := dpa_len hds
    have hm := of_decide_eq_true hm
    refine ⟨Nat.le_of_lt (small1000 (by omega)), fun p hp => ?_⟩
    have h0 := R1.h0 hp
    exact k _ _ _ (.tuple ds) ρ1 (R1.alloc hp) (S1.trans (same_up h0)) (.tup (SqT.of upd_same) (dpa_mono (same_up h0) ds xs hds)) w1⟩
theorem pr_lst {m : Nat} {q : QL} (h : PL J X es m q) (hm : decide (m ≤ 1000) = true) : PR J X (.List es pos) (qLst q) :=
  pe_mono (pe_lst h) fun σ H Q ⟨n, H0, ρ, P, R, w, k⟩ => ⟨n, H0, ρ, _, R, w, fun xs H1 H01 ds ρ1 R1 S1 hds hl w1 => by
    have e := dpa_len hds
    have hm := of_decide_eq_true hm
    refine ⟨Nat.le_of_lt (small1000 (by omega)), fun p hp => ?_⟩
    refine k _ _ _ (.ow ds) ρ1 (R1.laid hp) S1 ⟨p, xs, rfl, upd_same, hds, R1.h0 hp, R1.he0 hp, fun i es e => ?_⟩ w1
    obtain ⟨a, ys, h1, h2, _⟩ := R1.sl i _ e
    intro z
    rw [h1] at z
    cases z
    rw [hp] at h2
    cases h2⟩
end
end Zd

set_option Elab.async false
set_option linter.all false
set_option maxRecDepth 100000
set_option maxHeartbeats 4000000
namespace Zd
open PySem PySem.Spec PyProof.Rows L2
section
variable {X : Cx} {J : Jr} {e a b c : Expr} {es : List Expr} {pos : Pos}
theorem opr_or {o : Value → Value → Sem Value} {r r' : R2} (h : OpR X o r) (h' : OpR X o r') : OpR X o (fun x y H Q => r x y H Q ∨ r' x y H Q) :=
  fun pins s σ H x y v u Q I rx ry w => w.elim (h pins s σ H x y v u Q I rx ry) (h' pins s σ H x y v u Q I rx ry)
theorem here {K : PySem.W.Frag} {n : En} {σ : L2.St} {H H0 : Hp} {ρ : List Sl} {P : Sl → Prop} {Q : VK} (k : ∀ v H' H0' s, Rp K J n σ H' H0' ρ → Same H0 H0' → ResOk K n σ ρ H' H0' v s → P s → Q v H') (R : Rp K J n σ H H0 ρ)
    {v : V} {d : D} (h : Dq K H0 v d) (w : P (.da d)) : Q v H := k v H H0 (.da d) R (.refl _) h w
theorem Vw.int {K : PySem.W.Frag} {H H0 : Hp} {v : V} {i : Int} (h : Vw K H H0 v (.int i)) : v = .int i := dp_int (h.dp fun _ z => nomatch z)
theorem Vw.str {K : PySem.W.Frag} {H H0 : Hp} {v : V} {i : Str} (h : Vw K H H0 v (.str i)) : v = .str i := dp_str (h.dp fun _ z => nomatch z)
theorem Vw.bl {K : PySem.W.Frag} {H H0 : Hp} {v : V} {i : Bool} (h : Vw K H H0 v (.bool i)) : v = .bl i := dp_bool (h.dp fun _ z => nomatch z)
theorem Vw.non {K : PySem.W.Frag} {H H0 : Hp} {v : V} (h : Vw K H H0 v .none) : v = .non := dp_none (h.dp fun _ z => nomatch z)
/-- new, so of no slot -/
theorem Rp.new {K : PySem.W.Frag} {n : En} {σ : L2.St} {H H0 : Hp} {ρ : List Sl} (R : Rp K J n σ H H0 ρ) {p : Addr} (hp : H p = none) : ∀ (i : Nat) (es : List D), ρ[i]? = some (Sl.ow es) → σ[i]? ≠ some (some (V.ref p)) := fun i es e z => by
  obtain ⟨a, ys, h1, h2, _⟩ := R.sl i _ e
  rw [h1] at z
  cases z
  rw [hp] at h2
  cases h2
/-- a new list as a result -/
theorem Rp.newL {K : PySem.W.Frag} {n : En} {σ : L2.St} {H H0 : Hp} {ρ : List Sl} (R : Rp K J n σ H H0 ρ) {p : Addr} (hp : H p = none) {xs : List V} {ds : List D} (hd : DqAll K H0 xs ds) :
    Rp K J n σ (upd H p (.lst xs)) H0 ρ ∧ ResOk K n σ ρ (upd H p (.lst xs)) H0 (.ref p) (.ow ds) :=
  ⟨R.laid hp, p, xs, rfl, upd_same, hd, R.h0 hp, R.he0 hp, R.new hp⟩
/-- a new tuple as a result -/
theorem Rp.newT {K : PySem.W.Frag} {n : En} {σ : L2.St} {H H0 : Hp} {ρ : List Sl} (R : Rp K J n σ H H0 ρ) {p : Addr} (hp : H p = none) {xs : List V} {ds : List D} (hd : DqAll K H0 xs ds) :
    Rp K J n σ (upd H p (.tup xs)) (upd H0 p (.tup xs)) ρ ∧ Same H0 (upd H0 p (.tup xs)) ∧ ResOk K n σ ρ (upd H p (.tup xs)) (upd H0 p (.tup xs)) (.ref p) (.da (.tuple ds)) :=
  ⟨R.alloc hp, same_up (R.h0 hp), .tup (SqT.of upd_same) (dpa_mono (same_up (R.h0 hp)) ds xs hd)⟩

/-! ### + - * // % ** on data -/
/-- list + list, whatever lists they are -/
def rCatS (K : PySem.W.Frag) : R2 := fun x y H Q => ∃ l b xs zs, x = .ref l ∧ y = .ref b ∧ SqL K H l xs ∧ SqL K H b zs ∧ xs.length + zs.length ≤ sizeLine ∧ ∀ p, H p = none → Q (.ref p) (upd H p (.lst (xs ++ zs)))
theorem op_catS : OpR X (binaryOp .Add) (rCatS X.K) := by
  intro pins s σ H x y v u Q I rx ry w
  obtain ⟨l, b, xs, zs, rfl, rfl, h1, h2, hz, q⟩ := w
  cases rx
  cases ry
  obtain ⟨us, r1, ⟨⟨c1, d1, t1, k1⟩, n1, e1, q1, q2, q3⟩, _⟩ := I.list h1
  obtain ⟨ws, r2, ⟨⟨c2, d2, t2, k2⟩, n2, e2, p1, p2, p3⟩, _⟩ := I.list h2
  simp only at q1 q2 q3 p1 p2 p3
  subst q1 q3 p1 p3
  have l1 := r1.length
  have l2 := r2.length
  refine concat_meets ⟨_, e1, rfl⟩ ⟨_, e2, rfl⟩ noFill_list_add seq_list_add F.slot_list_add F.entry_list_add (F.args_list_add_2 _ _) (list_addW l b us.toArray ws.toArray n1 n2 d1 d2 k1 k2 (by rw [List.size_toArray, List.size_toArray]; omega)) ⟨e1, e2, ?_⟩
  rw [show us.toArray ++ ws.toArray = (us ++ ws).toArray by simp]
  exact ⟨.ref _, _, I.lnew (t' := s.toks) (r1.append r2) (by rw [List.length_append]; omega), rfl, q _ I.fresh⟩
def dAdd : DOp := fun d e P => match d, e with
  | .int i, .int j => P (.da (.int (i + j)))
  | .str x, .str y => x.length + y.length ≤ sizeLine ∧ P (.da (.str (x ++ y)))
  | .tuple x, .tuple y => x.length + y.length ≤ sizeLine ∧ P (.da (.tuple (x ++ y)))
  | .list x, .list y => x.length + y.length ≤ sizeLine ∧ P (.ow (x ++ y))
  | _, _ => False
theorem op_dAdd : DopOk J X (binaryOp .Add) dAdd := by
  refine ⟨_, opr_or (opr_or op_add op_add_str) (opr_or op_catA op_catS), fun n σ H H0 ρ x y d e P Q R hd he w k => ?_⟩
  cases d with
  | int i =>
    cases e with
    | int j =>
      have h1 := hd.int; have h2 := he.int
      subst h1; subst h2
      exact .inl (.inl ⟨i, j, rfl, rfl, here k R (Dq.int _) w⟩)
    | _ => exact w.elim
  | str i =>
    cases e with
    | str j =>
      have h1 := hd.str; have h2 := he.str
      subst h1; subst h2
      exact .inl (.inr ⟨i, j, rfl, rfl, w.1, here k R (Dq.str _) w.2⟩)
    | _ => exact w.elim
  | tuple i =>
    cases e with
    | tuple j =>
      obtain ⟨a1, xs, rfl, s1, m1⟩ := hd.tup
      obtain ⟨a2, ys, rfl, s2, m2⟩ := he.tup
      have l1 := dpa_len m1
      have l2 := dpa_len m2
      refine .inr (.inl ⟨a1, a2, xs, ys, rfl, rfl, same_t R.sub s1, same_t R.sub s2, by rw [l1, l2]; exact w.1, fun z => ?_, fun z z2 => ?_, fun z z2 p hp => ?_⟩)
      · subst z
        cases i with
        | nil => exact here k R (Dq.tup s2 m2) w.2
        | cons _ _ => cases l1
      · subst z2
        cases j with
        | nil => exact here k R (Dq.tup s1 m1) (by have := w.2; rw [List.append_nil] at this; exact this)
        | cons _ _ => cases l2
      · obtain ⟨r1, r2, r3⟩ := R.newT hp (dpa_app m1 m2)
        exact k _ _ _ _ r1 r2 r3 w.2
    | _ => exact w.elim
  | list i =>
    cases e with
    | list j =>
      obtain ⟨a1, xs, rfl, s1, m1⟩ := hd.lst R.sub
      obtain ⟨a2, ys, rfl, s2, m2⟩ := he.lst R.sub
      refine .inr (.inr ⟨a1, a2, xs, ys, rfl, rfl, s1, s2, by rw [dpa_len m1, dpa_len m2]; exact w.1, fun p hp => ?_⟩)
      obtain ⟨r1, r2⟩ := R.newL hp (dpa_app m1 m2)
      exact k _ _ _ _ r1 (.refl _) r2 w.2
    | _ => exact w.elim
  | _ => exact w.elim
def dI (C : Int → Int → Prop) (g : Int → Int → D) : DOp := fun d e P => match d, e with
  | .int i, .int j => C i j ∧ P (.da (g i j))
  | _, _ => False
theorem opis_I {K : PySem.W.Frag} {C : Int → Int → Prop} {g : Int → Int → V} {g' : Int → Int → D} (hg : ∀ i j H0, Dq K H0 (g i j) (g' i j)) : OpIs K J (rI C g) (dI C g') := fun n σ H H0 ρ x y d e P Q R hd he w k => by
  cases d with
  | int i =>
    cases e with
    | int j =>
      have h1 := hd.int; have h2 := he.int
      subst h1; subst h2
      exact ⟨i, j, rfl, rfl, w.1, here k R (hg i j H0) w.2⟩
    | _ => exact w.elim
  | _ => exact w.elim
def dSub : DOp := fun d e P => match d, e with
  | .int i, .int j => P (.da (.int (i - j)))
  | _, _ => False
theorem op_dSub : DopOk J X (binaryOp .Sub) dSub := ⟨_, op_sub, fun n σ H H0 ρ x y d e P Q R hd he w k => by
  cases d with
  | int i =>
    cases e with
    | int j => exact ⟨i, j, hd.int, he.int, here k R (.int _) w⟩
    | _ => exact w.elim
  | _ => exact w.elim⟩
/-- a product that the language takes -/
abbrev CMulA (i j : Int) : Prop := CMul i j ∨ CMulW i j
def repS (z : Str) (k : Nat) : Str := ⟨(List.replicate k z.cps.toList).flatten.toArray⟩
theorem repS_len (z : Str) (k : Nat) : (repS z k).length = k * z.length := by
  show ((List.replicate k z.cps.toList).flatten.toArray).size = _
  rw [List.size_toArray, List.length_flatten, List.map_replicate, List.sum_replicate_nat, Array.length_toList]
  rfl
theorem fold_rep (a : Array Nat) : ∀ (m : Nat) (acc : Array Nat), (List.replicate m a).foldl (· ++ ·) acc = acc ++ (List.replicate m a.toList).flatten.toArray
  | 0, acc => by simp
  | m + 1, acc => by
    rw [List.replicate_succ, List.replicate_succ, List.foldl_cons, fold_rep a m, List.flatten_cons]
    rw [Array.append_assoc]
    congr 1
    apply Array.ext'
    simp
def rMulS : R2 := fun x y H Q => ∃ z n, x = .str z ∧ y = .int n ∧ 0 ≤ n ∧ n < 2 ^ 31 ∧ z.length * n.toNat ≤ 1000000 ∧ Q (.str (repS z n.toNat)) H
theorem op_mulS : OpR X (binaryOp .Mult) rMulS := by
  intro pins s σ H x y v u Q I rx ry h
  obtain ⟨z, n, rfl, rfl, h0, h1, h2, q⟩ := h
  obtain ⟨t, rfl⟩ := rx
  obtain ⟨t', rfl⟩ := ry
  have len : (repS z n.toNat).length ≤ sizeLine := by
    rw [repS_len, Nat.mul_comm]
    exact Nat.le_trans h2 (by decide)
  refine PySem.P.mul_str ?_ ?_ ?_ ?_
  · rw [decide_eq_false (by omega), decide_eq_false (by omega)]; rfl
  · intro a1 a2 a3
    have b1 : z.length * 1 ≤ z.length * n.toNat := Nat.mul_le_mul_left _ (by omega)
    have b2 : (1000000 : Int) ≤ (2 ^ 63 - 1) / n := Int.le_ediv_of_mul_le (by omega) (by omega)
    omega
  · intro a1 a2
    unfold Builtin.Str.tooLong
    exact decide_eq_false (Nat.not_lt.mpr (Nat.le_trans h2 (by decide)))
  · by_cases c1 : n < 1
    · rw [if_pos c1]
      have e : n = 0 := by omega
      subst e
      exact ⟨by decide, .str _, H, I.tok _, ⟨_, rfl⟩, q⟩
    · rw [if_neg c1]
      by_cases c2 : (n == 1 || z.length == 0) = true
      · rw [if_pos c2]
        have e : repS z n.toNat = z := by
          obtain ⟨c⟩ := z
          rcases Bool.or_eq_true_iff.mp c2 with q1 | q1
          · have : n = 1 := by simpa using q1
            subst this
            simp [repS]
          · have q2 : c.size = 0 := beq_iff_eq.mp q1
            have q3 : c = #[] := Array.eq_empty_of_size_eq_zero q2
            subst q3
            simp [repS]
        rw [e] at q
        exact ⟨.str z, H, I, ⟨t, rfl⟩, q⟩
      · rw [if_neg c2]
        have e : (⟨(List.replicate n.toNat z.cps).foldl (· ++ ·) #[]⟩ : Str) = repS z n.toNat := by
          rw [fold_rep]
          simp [repS]
        rw [e]
        exact ⟨len, .str _, H, I.tok _, ⟨_, rfl⟩, q⟩
def dMul : DOp := fun d e P => match d, e with
  | .int i, .int j => CMulA i j ∧ P (.da (.int (i * j)))
  | .str z, .int n => 0 ≤ n ∧ n < 2 ^ 31 ∧ z.length * n.toNat ≤ 1000000 ∧ P (.da (.str (repS z n.toNat)))
  | _, _ => False
theorem CMulA.ok {i j : Int} (h : CMulA i j) : IntMulOk i j := h.elim CMul.ok CMulW.ok
theorem op_dMul : DopOk J X (binaryOp .Mult) dMul := ⟨_, opr_or (opI (C := CMulA) (g := fun i j => i * j) fun _ _ _ _ _ _ _ hc q => mul_int q hc.ok) op_mulS, fun n σ H H0 ρ x y d e P Q R hd he w k => by
  cases d with
  | int i =>
    cases e with
    | int j => exact .inl ⟨i, j, hd.int, he.int, w.1, here k R (Dq.int _) w.2⟩
    | _ => exact w.elim
  | str z =>
    cases e with
    | int j => exact .inr ⟨z, j, hd.str, he.int, w.1, w.2.1, w.2.2.1, here k R (Dq.str _) w.2.2.2⟩
    | _ => exact w.elim
  | _ => exact w.elim⟩
def dFdiv : DOp := fun d e P => dI CDivW (fun i j => .int (i / j)) d e P
theorem op_dFdiv : DopOk J X (binaryOp .FloorDiv) dFdiv := ⟨_, op_fdivW, opis_I fun _ _ _ => .int _⟩
def dMod : DOp := fun d e P => dI (fun _ j => 0 < j) (fun i j => .int (i % j)) d e P
theorem op_dMod : DopOk J X (binaryOp .Mod) dMod := ⟨_, op_mod, opis_I fun _ _ _ => .int _⟩
/-- a power that the language takes -/
def CPowA (i j : Int) : Prop := 0 ≤ j ∧ (Builtin.Int.intBits i : Int) * j ≤ 2 ^ 27
def dPow : DOp := fun d e P => dI CPowA (fun i j => .int (i ^ j.toNat)) d e P
theorem op_dPow : DopOk J X (binaryOp .Pow) dPow := ⟨_, opI fun _ _ _ _ _ _ _ hc q => pow_int hc.1 hc.2 q, opis_I fun _ _ _ => .int _⟩
def dShl : DOp := fun d e P => dI CPow (fun i j => .int (i * 2 ^ j.toNat)) d e P
theorem op_dShl : DopOk J X (binaryOp .LShift) dShl := ⟨_, op_shl, opis_I fun _ _ _ => .int _⟩

/-! ### comparisons -/
def dC (p : Int → Int → Bool) : DOp := fun d e P => match d, e with
  | .int i, .int j => P (.da (.bool (p i j)))
  | _, _ => False
theorem opis_C {K : PySem.W.Frag} {p : Int → Int → Bool} : OpIs K J (rI0 fun i j => .bl (p i j)) (dC p) := fun n σ H H0 ρ x y d e P Q R hd he w k => by
  cases d with
  | int i =>
    cases e with
    | int j =>
      have h1 := hd.int; have h2 := he.int
      subst h1; subst h2
      exact ⟨i, j, rfl, rfl, here k R (Dq.bl _) w⟩
    | _ => exact w.elim
  | _ => exact w.elim
def dLt : DOp := fun d e P => dC (fun i j => decide (i < j)) d e P
def dLe : DOp := fun d e P => dC (fun i j => decide (i ≤ j)) d e P
def dGt : DOp := fun d e P => dC (fun i j => decide (j < i)) d e P
def dGe : DOp := fun d e P => dC (fun i j => decide (j ≤ i)) d e P
theorem op_dLt : DopOk J X (compareOp .Lt) dLt := ⟨_, op_lt, opis_C⟩
theorem op_dLe : DopOk J X (compareOp .LtE) dLe := ⟨_, op_le, opis_C⟩
theorem op_dGt : DopOk J X (compareOp .Gt) dGt := ⟨_, op_gt, opis_C⟩
theorem op_dGe : DopOk J X (compareOp .GtE) dGe := ⟨_, op_ge, opis_C⟩
/-- == of data -/
def dEqB (g : Bool → Bool) : DOp := fun d e P => match d, e with
  | .int i, .int j => P (.da (.bool (g (decide (i = j)))))
  | .str x, .str y => P (.da (.bool (g (decide (x = y)))))
  | .bool x, .bool y => P (.da (.bool (g (decide (x = y)))))
  | d, e => SeqAt.shaped d = true ∧ SeqAt.shaped e = true ∧ P (.da (.bool (g (PyData.eqv d e))))
theorem eq_ready {K : PySem.W.Frag} {g : Bool → Bool} {n : En} {σ : L2.St} {H H0 : Hp} {ρ : List Sl} {x y : V} {d e : D} {P : Sl → Prop} {Q : VK} (R : Rp K J n σ H H0 ρ) (hd : Vw K H H0 x d) (he : Vw K H H0 y e) (w : dEqB g d e P)
    (k : ∀ v H' H0' s, Rp K J n σ H' H0' ρ → Same H0 H0' → ResOk K n σ ρ H' H0' v s → P s → Q v H') :
    (scal x y = true ∧ Q (.bl (g (decide (x = y)))) H) ∨ (∃ d e, L2.Dp K H x d ∧ L2.Dp K H y e ∧ SeqAt.shaped d = true ∧ SeqAt.shaped e = true ∧ Q (.bl (g (PyData.eqv d e))) H) := by
  have gen : SeqAt.shaped d = true ∧ SeqAt.shaped e = true ∧ P (.da (.bool (g (PyData.eqv d e)))) → ∃ d e, L2.Dp K H x d ∧ L2.Dp K H y e ∧ SeqAt.shaped d = true ∧ SeqAt.shaped e = true ∧ Q (.bl (g (PyData.eqv d e))) H := fun ⟨w1, w2, w3⟩ =>
    ⟨d, e, dq_dp d x (hd.at R.sub), dq_dp e y (he.at R.sub), w1, w2, here k R (Dq.bl _) w3⟩
  cases d with
  | int i =>
    cases e with
    | int j =>
      have h1 := hd.int; have h2 := he.int
      subst h1; subst h2
      refine .inl ⟨rfl, ?_⟩
      have q : decide ((V.int i) = V.int j) = decide (i = j) := by simp
      rw [q]
      exact here k R (Dq.bl _) w
    | _ => exact .inr (gen w)
  | str i =>
    cases e with
    | str j =>
      have h1 := hd.str; have h2 := he.str
      subst h1; subst h2
      refine .inl ⟨rfl, ?_⟩
      have q : decide ((V.str i) = V.str j) = decide (i = j) := by simp
      rw [q]
      exact here k R (Dq.bl _) w
    | _ => exact .inr (gen w)
  | bool i =>
    cases e with
    | bool j =>
      have h1 := hd.bl; have h2 := he.bl
      subst h1; subst h2
      refine .inl ⟨rfl, ?_⟩
      have q : decide ((V.bl i) = V.bl j) = decide (i = j) := by simp
      rw [q]
      exact here k R (Dq.bl _) w
    | _ => exact .inr (gen w)
  | _ => exact .inr (gen w)
def dEq : DOp := fun d e P => dEqB (fun b => b) d e P
def dNe : DOp := fun d e P => dEqB (fun b => !b) d e P
theorem op_dEq (hu : X.A.units + 64 < cLine) : DopOk J X (compareOp .Eq) dEq := ⟨_, opr_or op_eq (op_eqD hu), fun n σ H H0 ρ x y d e P Q R hd he w k => eq_ready (g := fun b => b) R hd he w k⟩
theorem op_dNe (hu : X.A.units + 64 < cLine) : DopOk J X (compareOp .NotEq) dNe := ⟨_, opr_or op_ne (op_neD hu), fun n σ H H0 ρ x y d e P Q R hd he w k => eq_ready (g := fun b => !b) R hd he w k⟩
/-- is None -/
def isNon : D → Bool
  | .none => true
  | _ => false
def dIs (g : Bool → Bool) : DOp := fun d e P => match e with
  | .none => P (.da (.bool (g (isNon d))))
  | _ => False
theorem isNon_v {K : PySem.W.Frag} {H : Hp} {x : V} {d : D} (h : Dq K H x d) : decide (x = .non) = isNon d := by
  cases h <;> rfl
theorem op_dIs : DopOk J X (compareOp .Is) (dIs fun b => b) := ⟨_, op_isN, fun n σ H H0 ρ x y d e P Q R hd he w k => by
  cases e with
  | none =>
    have w' : P (.da (.bool (isNon d))) := w
    rw [← isNon_v (hd.at R.sub)] at w'
    exact ⟨he.non, here k R (Dq.bl _) w'⟩
  | _ => exact w.elim⟩
theorem op_dIsN : DopOk J X (compareOp .IsNot) (dIs fun b => !b) := ⟨_, op_notN, fun n σ H H0 ρ x y d e P Q R hd he w k => by
  cases e with
  | none =>
    have w' : P (.da (.bool (!isNon d))) := w
    rw [← isNon_v (hd.at R.sub)] at w'
    exact ⟨he.non, here k R (Dq.bl _) w'⟩
  | _ => exact w.elim⟩
/-- in -/
def flatD : D → Bool
  | .none => true
  | .bool _ => true
  | .int _ => true
  | .str _ => true
  | _ => false
def inD (x : D) (ds : List D) : Bool := ds.any fun y => PyData.eqv y x
theorem flat_v {K : PySem.W.Frag} {H : Hp} {x : V} {d : D} (h : Dq K H x d) (f : flatD d = true) : flatV x = true := by
  cases h <;> first | rfl | cases f
theorem eqV_v {K : PySem.W.Frag} {H : Hp} {x y : V} {d e : D} (h : Dq K H x d) (h' : Dq K H y e) (f : flatD d = true) (f' : flatD e = true) : eqV x y = PyData.eqv d e := by
  cases h <;> first | (cases h' <;> first | rfl | cases f') | cases f
theorem flats_v {K : PySem.W.Frag} {H : Hp} : ∀ {ds : List D} {xs : List V}, DqAll K H xs ds → ds.all flatD = true → xs.all flatV = true
  | [], _, h, _ => by cases h; rfl
  | d :: ds, _, h, f => by
    cases h with
    | cons h1 h2 =>
      rw [List.all_cons, Bool.and_eq_true] at f ⊢
      exact ⟨flat_v h1 f.1, flats_v h2 f.2⟩
theorem inV_v {K : PySem.W.Frag} {H : Hp} {x : V} {d : D} (h : Dq K H x d) (fx : flatD d = true) : ∀ {ds : List D} {xs : List V}, DqAll K H xs ds → ds.all flatD = true → inV x xs = inD d ds
  | [], _, h, _ => by cases h; rfl
  | e :: ds, _, hs, f => by
    cases hs with
    | cons h1 h2 =>
      rw [List.all_cons, Bool.and_eq_true] at f
      have ih := inV_v h fx h2 f.2
      show (eqV _ x || inV x _) = (PyData.eqv e d || inD d ds)
      rw [ih, eqV_v h1 h f.1 fx]
def dIn (g : Bool → Bool) : DOp := fun d e P => match e with
  | .str y => ∃ x, d = .str x ∧ P (.da (.bool (g (!(Builtin.Str.occurrences y x 0 y.length 1).isEmpty))))
  | .tuple ds => flatD d = true ∧ ds.all flatD = true ∧ P (.da (.bool (g (inD d ds))))
  | .list ds => flatD d = true ∧ ds.all flatD = true ∧ P (.da (.bool (g (inD d ds))))
  | _ => False
theorem in_ready {K : PySem.W.Frag} {g : Bool → Bool} {n : En} {σ : L2.St} {H H0 : Hp} {ρ : List Sl} {x y : V} {d e : D} {P : Sl → Prop} {Q : VK} (R : Rp K J n σ H H0 ρ) (hd : Vw K H H0 x d) (he : Vw K H H0 y e) (w : dIn g d e P)
    (k : ∀ v H' H0' s, Rp K J n σ H' H0' ρ → Same H0 H0' → ResOk K n σ ρ H' H0' v s → P s → Q v H') :
    (∃ i j, x = .str i ∧ y = .str j ∧ Q (.bl (g (!(Builtin.Str.occurrences j i 0 j.length 1).isEmpty))) H) ∨
    (∃ p xs, y = .ref p ∧ (SqL K H p xs ∨ SqT K H p xs) ∧ flatV x = true ∧ xs.all flatV = true ∧ Q (.bl (g (inV x xs))) H) := by
  have hx := hd.at R.sub
  cases e with
  | str j =>
    obtain ⟨i, rfl, w⟩ := w
    exact .inl ⟨i, j, hd.str, he.str, here k R (Dq.bl _) w⟩
  | tuple ds =>
    obtain ⟨p, xs, rfl, s1, m1⟩ := he.tup
    have m2 := dpa_mono R.sub ds xs m1
    refine .inr ⟨p, xs, rfl, .inr (same_t R.sub s1), flat_v hx w.1, flats_v m2 w.2.1, ?_⟩
    rw [inV_v hx w.1 m2 w.2.1]
    exact here k R (Dq.bl _) w.2.2
  | list ds =>
    obtain ⟨p, xs, rfl, s1, m1⟩ := he.lst R.sub
    have m2 := dpa_mono R.sub ds xs m1
    refine .inr ⟨p, xs, rfl, .inl (s1), flat_v hx w.1, flats_v m2 w.2.1, ?_⟩
    rw [inV_v hx w.1 m2 w.2.1]
    exact here k R (Dq.bl _) w.2.2
  | _ => exact w.elim
theorem op_dIn : DopOk J X (compareOp .In) (dIn fun b => b) := ⟨_, opr_or op_in_str op_in_seq, fun n σ H H0 ρ x y d e P Q R hd he w k => in_ready (g := fun b => b) R hd he w k⟩
theorem op_dNotIn : DopOk J X (compareOp .NotIn) (dIn fun b => !b) := ⟨_, opr_or op_notIn_str op_notIn_seq, fun n σ H H0 ρ x y d e P Q R hd he w k => in_ready (g := fun b => !b) R hd he w k⟩

/-! ### minus; an item; a slice -/
def qNeg (q : QD) : QD := fun ρ P => q ρ fun d ρ' => ∃ i, d = .int i ∧ P (.int (-i)) ρ'
theorem pd_neg {q : QD} (h : PD J X a q) : PD J X (.UnaryOp .USub a pos) (qNeg q) := pe_mono (pe_un un_neg h) fun σ H Q ⟨n, H0, ρ, P, R, w, k⟩ => ⟨n, H0, ρ, _, R, w, fun x H1 H01 d ρ1 R1 S1 hd ⟨i, ei, w1⟩ => by
  subst ei
  exact ⟨i, dp_int hd, k _ H1 H01 _ ρ1 R1 S1 (.int _) w1⟩⟩
def dIx : DOp := fun d e P => match d, e with
  | .tuple ds, .int i => ∃ x, atI ds i = some x ∧ P (.da x)
  | .list ds, .int i => ∃ x, atI ds i = some x ∧ P (.da x)
  | .str s, .int i => s.length ≤ 100000 ∧ ∃ c, atI s.cps.toList i = some c ∧ P (.da (.str ⟨#[c]⟩))
  | _, _ => False
theorem atI_v {K : PySem.W.Frag} {H : Hp} {ds : List D} {xs : List V} {i : Int} {x : D} (h : DqAll K H xs ds) (e : atI ds i = some x) : ∃ v, atI xs i = some v ∧ Dq K H v x := by
  unfold atI at e ⊢
  rw [dpa_len h]
  cases z : ixN ds.length i with
  | none => rw [z] at e; cases e
  | some j =>
    rw [z] at e
    exact dpa_get' h e
theorem opis_Ix {K : PySem.W.Frag} : OpIs K J (rIx K) dIx := fun n σ H H0 ρ x y d e P Q R hd he w k => by
  cases d with
  | tuple ds =>
    cases e with
    | int i =>
      obtain ⟨z, h1, h2⟩ := w
      obtain ⟨p, xs, rfl, s1, m1⟩ := hd.tup
      obtain ⟨v, q1, q2⟩ := atI_v m1 h1
      exact .inr (.inl ⟨p, xs, i, v, rfl, he.int, same_t R.sub s1, q1, here k R q2 h2⟩)
    | _ => exact w.elim
  | list ds =>
    cases e with
    | int i =>
      obtain ⟨z, h1, h2⟩ := w
      obtain ⟨p, xs, rfl, s1, m1⟩ := hd.lst R.sub
      obtain ⟨v, q1, q2⟩ := atI_v m1 h1
      exact .inl ⟨p, xs, i, v, rfl, he.int, s1, q1, here k R q2 h2⟩
    | _ => exact w.elim
  | str s =>
    cases e with
    | int i =>
      obtain ⟨h0, c, h1, h2⟩ := w
      exact .inr (.inr ⟨s, i, c, hd.str, he.int, Nat.le_trans h0 (by decide), h1, here k R (Dq.str _) h2⟩)
    | _ => exact w.elim
  | _ => exact w.elim
theorem pr_ix {qa qb : QD} (ha : PD J X a qa) (hb : PV J X b qb) (hs : PlainIx b) : PR J X (.Subscript a b pos) (qBin dIx qa qb) := pe_mono (pe_ix ix_seq ha hb hs) (bin_mono opis_Ix)
theorem pr_ixN {i : Nat} {qb : QD} (ha : PE X a (tVar i)) (hb : PV J X b qb) (hs : PlainIx b) : PR J X (.Subscript a b pos) (qBinM dIx i qb) := pe_mono (pe_ix ix_seq ha hb hs) (binM_mono opis_Ix)

abbrev QO := List Sl → (Option Int → List Sl → Prop) → Prop
def tO (K : PySem.W.Frag) (J : Jr) (q : QO) : TO := fun σ H Q => ∃ (n : En) (H0 : Hp) (ρ : List Sl) (P : Option Int → List Sl → Prop), Rp K J n σ H H0 ρ ∧ q ρ P ∧
  ∀ o H' H0' ρ', Rp K J n σ H' H0' ρ' → Same H0 H0' → P o ρ' → Q o H'
theorem po_mono {o : Option Expr} {t t' : TO} (h : PO X o t) (i : ∀ σ H Q, t' σ H Q → t σ H Q) : PO X o t' := ⟨fun pins s σ H Q I w => h.run pins s σ H Q I (i _ _ _ w)⟩
def qO0 : QO := fun ρ P => P none ρ
def qO1 (q : QD) : QO := fun ρ P => q ρ fun d ρ' => ∃ i, d = .int i ∧ P (some i) ρ'
theorem pod_none : PO X none (tO X.K J qO0) := po_mono po_none fun σ H Q ⟨n, H0, ρ, P, R, w, k⟩ => k none H H0 ρ R (.refl _) w
theorem pod_some {q : QD} (h : PD J X e q) : PO X (some e) (tO X.K J (qO1 q)) := po_mono (po_some h) fun σ H Q ⟨n, H0, ρ, P, R, w, k⟩ => ⟨n, H0, ρ, _, R, w, fun x H1 H01 d ρ1 R1 S1 hd ⟨i, ei, w1⟩ => by
  subst ei
  exact ⟨i, dp_int hd, k _ H1 H01 ρ1 R1 S1 w1⟩⟩
def cutD {α : Type} (ds : List α) (lo hi : Option Int) : List α := (ds.drop (HT.sIx ds.length 0 lo)).take (HT.sIx ds.length ds.length hi - HT.sIx ds.length 0 lo)
def dSl (d : D) (lo hi : Option Int) (P : Sl → Prop) : Prop := match d with
  | .tuple ds => P (.da (.tuple (cutD ds lo hi)))
  | .list ds => P (.ow (cutD ds lo hi))
  | .str z => z.length ≤ sizeLine ∧ P (.da (.str (cutS z lo hi)))
  | _ => False
def rSl3 (K : PySem.W.Frag) : V → Option Int → Option Int → Hp → VK → Prop := fun x lo hi H Q => rSlT3 K x lo hi H Q
where rSlT3 (K : PySem.W.Frag) : V → Option Int → Option Int → Hp → VK → Prop := fun x lo hi H Q => rSlA K x lo hi H Q ∨ (rSlL K x lo hi H Q ∨ rSlS x lo hi H Q)
theorem sl_3 : SlR X (rSl3 X.K) := SlR.or sl_tupA (SlR.or sl_list sl_str)
theorem cut_v {K : PySem.W.Frag} {H : Hp} {ds : List D} {xs : List V} {lo hi : Option Int} (h : DqAll K H xs ds) : DqAll K H (cutV xs lo hi) (cutD ds lo hi) := by
  unfold cutV cutD
  rw [dpa_len h]
  exact dpa_take _ (dpa_drop _ h)
theorem sl_ready {K : PySem.W.Frag} {n : En} {σ : L2.St} {H H0 : Hp} {ρ : List Sl} {x : V} {d : D} {lo hi : Option Int} {P : Sl → Prop} {Q : VK} (R : Rp K J n σ H H0 ρ) (hd : Vw K H H0 x d) (w : dSl d lo hi P)
    (k : ∀ v H' H0' s, Rp K J n σ H' H0' ρ → Same H0 H0' → ResOk K n σ ρ H' H0' v s → P s → Q v H') : rSl3 K x lo hi H Q := by
  cases d with
  | tuple ds =>
    obtain ⟨p, xs, rfl, s1, m1⟩ := hd.tup
    refine .inl ⟨p, xs, rfl, same_t R.sub s1, fun z => ?_, fun _ q hq => ?_⟩
    · have e : cutD ds lo hi = ds := by
        unfold cutD
        rw [← dpa_len m1, z.1, z.2, List.drop_zero, Nat.sub_zero, dpa_len m1]
        exact List.take_length
      refine k _ H H0 (.da (.tuple (cutD ds lo hi))) R (.refl _) ?_ w
      rw [e]
      exact .tup s1 m1
    · obtain ⟨r1, r2, r3⟩ := R.newT hq (cut_v (lo := lo) (hi := hi) m1)
      exact k _ _ _ _ r1 r2 r3 w
  | list ds =>
    obtain ⟨p, xs, rfl, s1, m1⟩ := hd.lst R.sub
    refine .inr (.inl ⟨p, xs, rfl, s1, fun q hq => ?_⟩)
    obtain ⟨r1, r2⟩ := R.newL hq (cut_v (lo := lo) (hi := hi) m1)
    exact k _ _ _ _ r1 (.refl _) r2 w
  | str s => exact .inr (.inr ⟨s, hd.str, w.1, here k R (Dq.str _) w.2⟩)
  | _ => exact w.elim
def qSl (qa : QD) (ql qh : QO) : QR := fun ρ P => qa ρ fun d ρ1 => ql ρ1 fun lo ρ2 => qh ρ2 fun hi ρ3 => dSl d lo hi fun s => P s ρ3
def qSlN (i : Nat) (ql qh : QO) : QR := fun ρ P => known ρ i ∧ ql ρ fun lo ρ2 => qh ρ2 fun hi ρ3 => seeD ρ3[i]? fun d => dSl d lo hi fun s => P s ρ3
theorem pr_sl {qa : QD} {ql qh : QO} {lo hi : Option Expr} {p2 : Pos} (ha : PD J X a qa) (hl : PO X lo (tO X.K J ql)) (hh : PO X hi (tO X.K J qh)) : PR J X (.Subscript a (.Slice lo hi none p2) pos) (qSl qa ql qh) :=
  pe_mono (pe_slice sl_3 ha hl hh) fun σ H Q ⟨n, H0, ρ, P, R, w, k⟩ => ⟨n, H0, ρ, _, R, w, fun x H1 H01 d ρ1 R1 S1 hd w1 => ⟨n, H01, ρ1, _, R1, w1, fun l H2 H02 ρ2 R2 S2 w2 => ⟨n, H02, ρ2, _, R2, w2, fun u H3 H03 ρ3 R3 S3 w3 =>
    sl_ready R3 (.of (dp_mono (S2.trans S3) d x hd)) w3 fun v H' H0' s R' S' hs hp => k v H' H0' s ρ3 R' (((S1.trans S2).trans S3).trans S') hs hp⟩⟩⟩
theorem pr_slN {i : Nat} {ql qh : QO} {lo hi : Option Expr} {p2 : Pos} (ha : PE X a (tVar i)) (hl : PO X lo (tO X.K J ql)) (hh : PO X hi (tO X.K J qh)) : PR J X (.Subscript a (.Slice lo hi none p2) pos) (qSlN i ql qh) :=
  pe_mono (pe_slice sl_3 ha hl hh) fun σ H Q ⟨n, H0, ρ, P, R, w, k⟩ => by
    obtain ⟨x, hx⟩ := R.hasV w.1
    exact ⟨x, hx, n, H0, ρ, _, R, w.2, fun l H2 H02 ρ2 R2 S2 w2 => ⟨n, H02, ρ2, _, R2, w2, fun u H3 H03 ρ3 R3 S3 w3 => by
      obtain ⟨x', d, h1, h2, h3⟩ := R3.see w3
      rw [hx] at h1
      cases h1
      exact sl_ready R3 h2 h3 fun v H' H0' s R' S' hs hp => k v H' H0' s ρ3 R' ((S2.trans S3).trans S') hs hp⟩⟩

/-! ### calls of built-ins: the last argument may be a list that stands -/
def tLV (K : PySem.W.Frag) (J : Jr) (m : Nat) (q : QL) : TA := fun σ H Q => ∃ (n : En) (H0 : Hp) (ρ : List Sl) (P : List D → List Sl → Prop), Rp K J n σ H H0 ρ ∧ q ρ P ∧
  ∀ vs H' H0' ds ρ', Rp K J n σ H' H0' ρ' → Same H0 H0' → Paired (fun v d => Vw K H' H0' v d) vs ds → ds.length = m → P ds ρ' → Q vs H'
abbrev PLV (J : Jr) (X : Cx) (es : List Expr) (m : Nat) (q : QL) : Prop := PA X es (tLV X.K J m q)
theorem plv_one {qa : QD} (ha : PV J X e qa) (hs : starEach [e] X.env = (false, eval e X.env) :: starEach [] X.env := by rfl) : PLV J X [e] 1 (qCons qa qNil) :=
  pa_mono (pa_cons ha pa_nil hs) fun σ H Q ⟨n, H0, ρ, P, R, w, k⟩ => ⟨n, H0, ρ, _, R, w, fun x H1 H01 d ρ1 R1 S1 hd w1 => k [x] H1 H01 [d] ρ1 R1 S1 (.cons hd .nil) rfl w1⟩
theorem vw_mono {K : PySem.W.Frag} {H' H0 H0' : Hp} {v : V} {d : D} (s0 : Same H0 H0') (h : Dq K H0 v d) : Vw K H' H0' v d := .inl (dp_mono s0 d v h)
theorem plv_cons {m : Nat} {qa : QD} {qr : QL} (ha : PD J X e qa) (hr : PLV J X es m qr) (hs : starEach (e :: es) X.env = (false, eval e X.env) :: starEach es X.env := by rfl) : PLV J X (e :: es) (m + 1) (qCons qa qr) :=
  pa_mono (pa_cons ha hr hs) fun σ H Q ⟨n, H0, ρ, P, R, w, k⟩ => ⟨n, H0, ρ, _, R, w, fun x H1 H01 d ρ1 R1 S1 hd w1 => ⟨n, H01, ρ1, _, R1, w1, fun xs H2 H02 ds ρ2 R2 S2 hds hl w2 =>
    k (x :: xs) H2 H02 (d :: ds) ρ2 R2 (S1.trans S2) (.cons (vw_mono S2 hd) hds) (by rw [List.length_cons, hl]) w2⟩⟩
abbrev DCl := List D → (Sl → Prop) → Prop
def ClIs (K : PySem.W.Frag) (J : Jr) (r : List V → Hp → VK → Prop) (g : DCl) : Prop := ∀ n σ H H0 ρ vs ds P (Q : VK), Rp K J n σ H H0 ρ → Paired (fun v d => Vw K H H0 v d) vs ds → g ds P →
  (∀ v H' H0' s, Rp K J n σ H' H0' ρ → Same H0 H0' → ResOk K n σ ρ H' H0' v s → P s → Q v H') → r vs H Q
def DclOk (J : Jr) (X : Cx) (f : Value) (g : DCl) : Prop := ∃ r, CallR X f r ∧ ClIs X.K J r g
def qCl (g : DCl) (qa : QL) : QR := fun ρ P => qa ρ fun ds ρ' => g ds fun s => P s ρ'
theorem cl_mono {r : List V → Hp → VK → Prop} {g : DCl} {m : Nat} {qa : QL} (hr : ClIs X.K J r g) : ∀ σ H Q, tR X.K J (qCl g qa) σ H Q → tCB r (tLV X.K J m qa) σ H Q := fun σ H Q ⟨n, H0, ρ, P, R, w, k⟩ =>
  ⟨n, H0, ρ, _, R, w, fun vs H1 H01 ds ρ1 R1 S1 hd hl w1 => hr n σ H1 H01 ρ1 vs ds _ Q R1 hd w1 fun v H' H0' s R' S' hs hp => k v H' H0' s ρ1 R' (S1.trans S') hs hp⟩
theorem pr_callB {id : String} {g : DCl} {m : Nat} {qa : QL} {x : Str} {p : Pos} (hc : DclOk J X (.builtin id) g) (hg : Gl X x) (hm : X.mg x = none) (hv : bootBuiltins x = some (.builtin id)) (ha : PLV J X (e :: es) m qa)
    (hn : x ≠ "__name__" := by decide) (hdb : (x == ("__debug__" : Str)) = false := by decide)
    (he : starEach (e :: es) X.env = (false, eval e X.env) :: starEach es X.env := by rfl) (hpl : (backTo pos (starEach es X.env)).any (·.1) = false := by rfl) : PR J X (.Call (.Name x p) (e :: es) [] pos) (qCl g qa) := by
  obtain ⟨r, h1, h2⟩ := hc
  exact pe_mono (pe_callB h1 hg hm hv ha hn hdb he hpl) (cl_mono h2)
theorem pr_callTy {T : String} {g : DCl} {m : Nat} {qa : QL} {x : Str} {p : Pos} (hc : DclOk J X (.type T) g) (hg : Gl X x) (hm : X.mg x = none) (hv : bootBuiltins x = some (.type T)) (ha : PLV J X (e :: es) m qa)
    (hn : x ≠ "__name__" := by decide) (hdb : (x == ("__debug__" : Str)) = false := by decide)
    (he : starEach (e :: es) X.env = (false, eval e X.env) :: starEach es X.env := by rfl) (hpl : (backTo pos (starEach es X.env)).any (·.1) = false := by rfl) : PR J X (.Call (.Name x p) (e :: es) [] pos) (qCl g qa) := by
  obtain ⟨r, h1, h2⟩ := hc
  exact pe_mono (pe_callTy h1 hg hm hv ha hn hdb he hpl) (cl_mono h2)
theorem clr_or {f : Value} {r r' : List V → Hp → VK → Prop} (h : CallR X f r) (h' : CallR X f r') : CallR X f (fun vs H Q => r vs H Q ∨ r' vs H Q) :=
  fun pins s σ H xs us Q I rx w => w.elim (h pins s σ H xs us Q I rx) (h' pins s σ H xs us Q I rx)
/-- len -/
def cLen : DCl := fun ds P => match ds with
  | [.str x] => x.length ≤ sizeLine ∧ P (.da (.int x.length))
  | [.list x] => P (.da (.int x.length))
  | [.tuple x] => P (.da (.int x.length))
  | _ => False
theorem paired1 {α β : Type} {p : α → β → Prop} : ∀ {xs : List α} {y : β}, Paired p xs [y] → ∃ x, xs = [x] ∧ p x y
  | _, _, .cons h .nil => ⟨_, rfl, h⟩
theorem paired2 {α β : Type} {p : α → β → Prop} : ∀ {xs : List α} {y z : β}, Paired p xs [y, z] → ∃ u v, xs = [u, v] ∧ p u y ∧ p v z
  | _, _, _, .cons h (.cons h' .nil) => ⟨_, _, rfl, h, h'⟩
theorem cl_len : DclOk J X (.builtin "len") cLen := ⟨_, call_len, fun n σ H H0 ρ vs ds P Q R hp w k => by
  match ds, w with
  | [.str x], w =>
    obtain ⟨v, rfl, h⟩ := paired1 hp
    have e := h.str
    subst e
    exact ⟨_, _, rfl, ⟨w.1, rfl⟩, here k R (Dq.int _) w.2⟩
  | [.list x], w =>
    obtain ⟨v, rfl, h⟩ := paired1 hp
    obtain ⟨p, xs, rfl, s1, m1⟩ := h.lst R.sub
    exact ⟨_, _, rfl, .inl ⟨xs, s1, (dpa_len m1).symm⟩, here k R (Dq.int _) w⟩
  | [.tuple x], w =>
    obtain ⟨v, rfl, h⟩ := paired1 hp
    obtain ⟨p, xs, rfl, s1, m1⟩ := h.tup
    exact ⟨_, _, rfl, .inr ⟨xs, same_t R.sub s1, (dpa_len m1).symm⟩, here k R (Dq.int _) w⟩⟩
/-- abs, int -/
def cAbs : DCl := fun ds P => match ds with
  | [.int i] => P (.da (.int (if i < 0 then -i else i)))
  | _ => False
theorem cl_abs : DclOk J X (.builtin "abs") cAbs := ⟨_, call_abs, fun n σ H H0 ρ vs ds P Q R hp w k => by
  match ds, w with
  | [.int i], w =>
    obtain ⟨v, rfl, h⟩ := paired1 hp
    have e := h.int
    subst e
    exact ⟨i, rfl, here k R (Dq.int _) w⟩⟩
def cInt : DCl := fun ds P => match ds with
  | [.int i] => P (.da (.int i))
  | [.bool k] => P (.da (.int (if k then 1 else 0)))
  | _ => False
theorem cl_int : DclOk J X (.type "int") cInt := ⟨_, call_int1, fun n σ H H0 ρ vs ds P Q R hp w k => by
  match ds, w with
  | [.int i], w =>
    obtain ⟨v, rfl, h⟩ := paired1 hp
    have e := h.int
    subst e
    exact .inl ⟨i, rfl, here k R (Dq.int _) w⟩
  | [.bool i], w =>
    obtain ⟨v, rfl, h⟩ := paired1 hp
    have e := h.bl
    subst e
    exact .inr ⟨i, rfl, here k R (Dq.int _) w⟩⟩
def cMin : DCl := fun ds P => match ds with
  | [.int i, .int j] => P (.da (.int (if j < i then j else i)))
  | _ => False
def cMax : DCl := fun ds P => match ds with
  | [.int i, .int j] => P (.da (.int (if j > i then j else i)))
  | _ => False
theorem cl_min (hc : X.calm = true) : DclOk J X (.builtin "min") cMin := ⟨_, call_min2 hc, fun n σ H H0 ρ vs ds P Q R hp w k => by
  match ds, w with
  | [.int i, .int j], w =>
    obtain ⟨u, v, rfl, h, h'⟩ := paired2 hp
    have e := h.int
    have e' := h'.int
    subst e; subst e'
    exact ⟨i, j, rfl, here k R (Dq.int _) w⟩⟩
theorem cl_max (hc : X.calm = true) : DclOk J X (.builtin "max") cMax := ⟨_, call_max2 hc, fun n σ H H0 ρ vs ds P Q R hp w k => by
  match ds, w with
  | [.int i, .int j], w =>
    obtain ⟨u, v, rfl, h, h'⟩ := paired2 hp
    have e := h.int
    have e' := h'.int
    subst e; subst e'
    exact ⟨i, j, rfl, here k R (Dq.int _) w⟩⟩
def cGcd : DCl := fun ds P => match ds with
  | [.int i, .int j] => P (.da (.int (Int.gcd i j)))
  | _ => False
/-- tuple, list of a row -/
def cTuple : DCl := fun ds P => match ds with
  | [.list x] => P (.da (.tuple x))
  | [.tuple x] => P (.da (.tuple x))
  | _ => False
theorem cl_tuple : DclOk J X (.type "tuple") cTuple := ⟨_, call_tuple_of, fun n σ H H0 ρ vs ds P Q R hp w k => by
  match ds, w with
  | [.list x], w =>
    obtain ⟨v, rfl, h⟩ := paired1 hp
    obtain ⟨p, xs, rfl, s1, m1⟩ := h.lst R.sub
    refine ⟨p, xs, rfl, .inl ⟨s1, fun l hl => ?_⟩⟩
    obtain ⟨r1, r2, r3⟩ := R.newT hl m1
    exact k _ _ _ _ r1 r2 r3 w
  | [.tuple x], w =>
    obtain ⟨v, rfl, h⟩ := paired1 hp
    obtain ⟨p, xs, rfl, s1, m1⟩ := h.tup
    exact ⟨p, xs, rfl, .inr ⟨same_t R.sub s1, here k R (Dq.tup s1 m1) w⟩⟩⟩
def cList : DCl := fun ds P => match ds with
  | [.list x] => P (.ow x)
  | [.tuple x] => P (.ow x)
  | _ => False
theorem cl_list : DclOk J X (.type "list") cList := ⟨_, call_list_of, fun n σ H H0 ρ vs ds P Q R hp w k => by
  match ds, w with
  | [.list x], w =>
    obtain ⟨v, rfl, h⟩ := paired1 hp
    obtain ⟨p, xs, rfl, s1, m1⟩ := h.lst R.sub
    refine ⟨p, xs, rfl, .inl (s1), fun l hl => ?_⟩
    obtain ⟨r1, r2⟩ := R.newL hl m1
    exact k _ _ _ _ r1 (.refl _) r2 w
  | [.tuple x], w =>
    obtain ⟨v, rfl, h⟩ := paired1 hp
    obtain ⟨p, xs, rfl, s1, m1⟩ := h.tup
    refine ⟨p, xs, rfl, .inr (same_t R.sub s1), fun l hl => ?_⟩
    obtain ⟨r1, r2⟩ := R.newL hl m1
    exact k _ _ _ _ r1 (.refl _) r2 w⟩
/-- isinstance(e, T), T a built-in class -/
def tyD : D → String
  | .none => "NoneType"
  | .bool _ => "bool"
  | .int _ => "int"
  | .str _ => "str"
  | .list _ => "list"
  | .tuple _ => "tuple"
  | .dict _ => "dict"
theorem ty_v {K : PySem.W.Frag} {H : Hp} {x : V} {d : D} (h : Dq K H x d) : TyX K H x (.type (tyD d)) := by
  cases h with
  | non => exact .base .non
  | bl b => exact .base (.bl b)
  | int i => exact .base (.int i)
  | str x => exact .base (.str x)
  | lst h _ =>
    rcases h with (h | ⟨o, h⟩) | ⟨o, its, n, h1, h2, _⟩
    · exact .base (.lst h)
    · exact .base (.frz h)
    · exact .kList h1 h2
  | tup h _ =>
    rcases h with (h | ⟨o, h⟩) | ⟨o, its, n, h1, h2, _⟩
    · exact .base (.tup h)
    · exact .fTuple h
    · exact .kTuple h1 h2
def qIsi (T : String) (q : QD) : QD := fun ρ P => q ρ fun d ρ' => ∃ r, kitB (tyD d) T = some r ∧ P (.bool r) ρ'
theorem pd_isi {T : String} {q : QD} {x y : Str} {p p2 : Pos} (hg : Gl X x) (hm : X.mg x = none) (hv : bootBuiltins x = some (.builtin "isinstance")) (hg2 : Gl X y) (hm2 : X.mg y = none) (hv2 : bootBuiltins y = some (.type T)) (ha : PV J X e q)
    (hn : x ≠ "__name__" := by decide) (hdb : (x == ("__debug__" : Str)) = false := by decide) (hn2 : y ≠ "__name__" := by decide) (hdb2 : (y == ("__debug__" : Str)) = false := by decide)
    (he1 : starEach [e, .Name y p2] X.env = (false, eval e X.env) :: starEach [.Name y p2] X.env := by rfl) (he2 : starEach [.Name y p2] X.env = (false, eval (.Name y p2) X.env) :: starEach [] X.env := by rfl)
    (hpl : (backTo pos (starEach [.Name y p2] X.env)).any (·.1) = false := by rfl) (hcd : (y == ("__classdict__" : Str)) = false := by decide) :
    PD J X (.Call (.Name x p) [e, .Name y p2] [] pos) (qIsi T q) :=
  pe_mono (pe_callB call_isi hg hm hv (pa_cons ha (pa_cons (pe_bltn hg2 hm2 hv2 (v := .ty T) rfl hn2 hdb2) pa_nil he2) he1) hn hdb he1 hpl) fun σ H Q ⟨n, H0, ρ, P, R, w, k⟩ =>
    ⟨n, H0, ρ, _, R, w, fun v H1 H01 d ρ1 R1 S1 hd ⟨r, h1, w1⟩ => ⟨v, .ty T, .type (tyD d), .type T, r, rfl, .ty T, ty_v (hd.at R1.sub), kit_ty h1, k _ H1 H01 _ ρ1 R1 S1 (.bl _) w1⟩⟩
end
end Zd

set_option Elab.async false
set_option linter.all false
set_option maxRecDepth 100000
set_option maxHeartbeats 4000000
namespace Zd
open PySem PySem.Spec PyProof.Rows L2
/-! ### calls of the text's own defs -/
inductive A where
  | d (x : D)
  | n (i : Nat)
inductive Ag where
  | d (x : D)
  | j
abbrev QA := List Sl → (List A → List Sl → Prop) → Prop
def ArgOk (K : PySem.W.Frag) (σ : L2.St) (H0 : Hp) (v : V) : A → Prop
  | .d x => Dq K H0 v x
  | .n i => σ[i]? = some (some v)
def tA (K : PySem.W.Frag) (J : Jr) (q : QA) : TA := fun σ H Q => ∃ (n : En) (H0 : Hp) (ρ : List Sl) (P : List A → List Sl → Prop), Rp K J n σ H H0 ρ ∧ q ρ P ∧
  ∀ vs H' H0' as ρ', Rp K J n σ H' H0' ρ' → Same H0 H0' → Paired (ArgOk K σ H0') vs as → P as ρ' → Q vs H'
abbrev PAa (J : Jr) (X : Cx) (es : List Expr) (q : QA) : Prop := PA X es (tA X.K J q)
def resv (ρ : List Sl) : List A → Option (List Ag)
  | [] => some []
  | .d x :: r => (resv ρ r).map (Ag.d x :: ·)
  | .n i :: r => match ρ[i]? with
    | some (.da x) => (resv ρ r).map (Ag.d x :: ·)
    | some (.ow ds) => (resv ρ r).map (Ag.d (.list ds) :: ·)
    | some .ja => (resv ρ r).map (Ag.j :: ·)
    | _ => none
def frzs (ρ : List Sl) : List A → List Sl
  | [] => ρ
  | .d _ :: r => frzs ρ r
  | .n i :: r => frzs (frz ρ i) r
abbrev PPr := List Ag → (Sl → Prop) → Prop
/-- what is known behind a call: a flat result keeps no list -/
def behind (ρ : List Sl) (as : List A) (P : Sl → List Sl → Prop) (r : Sl) : Prop := match r with
  | .da d => if flatD d = true then P (.da d) ρ else P (.da d) (frzs ρ as)
  | r => P r (frzs ρ as)
/-- a wish that is not looked into till it is applied -/
inductive Seal (P : Sl → List Sl → Prop) : Type
  | mk
def hold (P : Sl → List Sl → Prop) (_ : Seal P) (ρ : List Sl) (as : List A) : Sl → Prop := behind ρ as P
theorem hold_app (P : Sl → List Sl → Prop) (k : Seal P) (ρ : List Sl) (as : List A) (x : Sl) : hold P k ρ as x = behind ρ as P x := rfl
def qCall (pp : PPr) (qa : QA) : QR := fun ρ P => qa ρ fun as ρ' => ∃ gs, resv ρ' as = some gs ∧ pp gs (hold P .mk ρ' as)
def AgOk (K : PySem.W.Frag) (H0 : Hp) (as : List Addr) (jv v : V) : Ag → Prop
  | .d x => Dq K H0 v x
  | .j => v = jv ∧ as ≠ []
/-- a def's promise over data -/
def spD (K : PySem.W.Frag) (J : Jr) (pp : PPr) : Sp := fun vs H Q _ => ∃ (H0 : Hp) (as : List Addr) (jv : V) (gs : List Ag), Same H0 H ∧ (as ≠ [] → J.is as jv H) ∧ (∀ a ∈ as, H0 a = none ∧ H a ≠ none) ∧
  Paired (AgOk K H0 as jv) vs gs ∧ ∃ R : Sl → Prop, pp gs R ∧ ∀ r v H', R r → RetOk K J ⟨H, H0, as, jv⟩ H' v r → Q v H'
section
variable {J : Jr} {K : PySem.W.Frag} {n : En} {σ : L2.St} {H H0 : Hp} {ρ : List Sl}
theorem frz_other (ρ : List Sl) (i j : Nat) (d : D) (h : ρ[j]? = some (.da d)) : (frz ρ i)[j]? = some (.da d) := by
  unfold frz
  cases e : ρ[i]? with
  | none => exact h
  | some s =>
    cases s with
    | ow ds =>
      show (ρ.set i _)[j]? = _
      rw [get_set]
      by_cases q : i = j
      · subst q; rw [e] at h; cases h
      · rw [if_neg q]; exact h
    | _ => exact h
theorem frz_ja (ρ : List Sl) (i j : Nat) (h : ρ[j]? = some .ja) : (frz ρ i)[j]? = some .ja := by
  unfold frz
  cases e : ρ[i]? with
  | none => exact h
  | some s =>
    cases s with
    | ow ds =>
      show (ρ.set i _)[j]? = _
      rw [get_set]
      by_cases q : i = j
      · subst q; rw [e] at h; cases h
      · rw [if_neg q]; exact h
    | _ => exact h
/-- the arguments' lists are data while the callee runs -/
theorem Rp.args (hs : Same H0 H0) : ∀ (as : List A) (ρ : List Sl) (H0 : Hp) (vs : List V) (gs : List Ag), Rp K J n σ H H0 ρ → Paired (ArgOk K σ H0) vs as → resv ρ as = some gs →
    ∃ H0', Same H0 H0' ∧ Rp K J n σ H H0' (frzs ρ as) ∧ Paired (AgOk K H0' n.as n.jv) vs gs := by
  -- first freeze all, then read all
  have step : ∀ (as : List A) (ρ : List Sl) (H0 : Hp), Rp K J n σ H H0 ρ → ∃ H0', Same H0 H0' ∧ Rp K J n σ H H0' (frzs ρ as) := by
    intro as
    induction as with
    | nil => exact fun ρ H0 R => ⟨H0, .refl _, R⟩
    | cons a r ih =>
      intro ρ H0 R
      cases a with
      | d x => exact ih ρ H0 R
      | n i =>
        obtain ⟨H1, S1, R1, _⟩ := R.frz1 i
        obtain ⟨H2, S2, R2⟩ := ih _ H1 R1
        exact ⟨H2, S1.trans S2, R2⟩
  have keepd : ∀ (as : List A) (ρ : List Sl) (j : Nat) (d : D), ρ[j]? = some (.da d) → (frzs ρ as)[j]? = some (.da d) := by
    intro as
    induction as with
    | nil => exact fun ρ j d h => h
    | cons a r ih =>
      intro ρ j d h
      cases a with
      | d x => exact ih ρ j d h
      | n i => exact ih _ j d (frz_other ρ i j d h)
  have keepj : ∀ (as : List A) (ρ : List Sl) (j : Nat), ρ[j]? = some .ja → (frzs ρ as)[j]? = some .ja := by
    intro as
    induction as with
    | nil => exact fun ρ j h => h
    | cons a r ih =>
      intro ρ j h
      cases a with
      | d x => exact ih ρ j h
      | n i => exact ih _ j (frz_ja ρ i j h)
  have keepo : ∀ (as : List A) (ρ : List Sl) (j : Nat) (ds : List D), ρ[j]? = some (.ow ds) → (frzs ρ as)[j]? = some (.ow ds) ∨ (frzs ρ as)[j]? = some (.da (.list ds)) := by
    intro as
    induction as with
    | nil => exact fun ρ j ds h => .inl h
    | cons a r ih =>
      intro ρ j ds h
      cases a with
      | d x => exact ih ρ j ds h
      | n i =>
        by_cases q : i = j
        · subst q
          have e : (frz ρ i)[i]? = some (.da (.list ds)) := by
            unfold frz
            rw [h]
            show (ρ.set i _)[i]? = _
            rw [get_set, if_pos rfl, if_pos (List.getElem?_eq_some_iff.mp h).1]
          exact .inr (keepd r _ i _ e)
        · have e : (frz ρ i)[j]? = some (.ow ds) := by
            unfold frz
            cases z : ρ[i]? with
            | none => exact h
            | some s =>
              cases s with
              | ow es =>
                show (ρ.set i _)[j]? = _
                rw [get_set, if_neg q]
                exact h
              | _ => exact h
          exact ih _ j ds e
  have named : ∀ (as : List A) (ρ : List Sl) (j : Nat) (ds : List D), .n j ∈ as → ρ[j]? = some (.ow ds) → (frzs ρ as)[j]? = some (.da (.list ds)) := by
    intro as
    induction as with
    | nil => exact fun ρ j ds h _ => nomatch h
    | cons a r ih =>
      intro ρ j ds hm h
      cases a with
      | d x =>
        rcases List.mem_cons.mp hm with q | q
        · cases q
        · exact ih ρ j ds q h
      | n i =>
        by_cases q : i = j
        · subst q
          refine keepd r _ i _ ?_
          unfold frz
          rw [h]
          show (ρ.set i _)[i]? = _
          rw [get_set, if_pos rfl, if_pos (List.getElem?_eq_some_iff.mp h).1]
        · have hm' : A.n j ∈ r := by
            rcases List.mem_cons.mp hm with w | w
            · cases w; exact absurd rfl q
            · exact w
          refine ih _ j ds hm' ?_
          unfold frz
          cases z : ρ[i]? with
          | none => exact h
          | some s =>
            cases s with
            | ow es =>
              show (ρ.set i _)[j]? = _
              rw [get_set, if_neg q]
              exact h
            | _ => exact h
  intro as ρ H0 vs gs R hp hr
  obtain ⟨H0', S', R'⟩ := step as ρ H0 R
  refine ⟨H0', S', R', ?_⟩
  have all : ∀ (bs : List A), (∀ b ∈ bs, b ∈ as) → ∀ (us : List V) (hs : List Ag), Paired (ArgOk K σ H0) us bs → resv ρ bs = some hs → Paired (AgOk K H0' n.as n.jv) us hs := by
    intro bs
    induction bs with
    | nil =>
      intro _ us hs h1 h2
      cases h1
      cases h2
      exact .nil
    | cons b r ih =>
      intro hm us hs h1 h2
      have hm' : ∀ c ∈ r, c ∈ as := fun c hc => hm c (List.mem_cons_of_mem _ hc)
      cases h1 with
      | @cons v _ vr _ p1 p2 =>
        cases b with
        | d x =>
          unfold resv at h2
          cases e : resv ρ r with
          | none => rw [e] at h2; cases h2
          | some hr =>
            rw [e] at h2
            cases h2
            exact .cons (dp_mono S' x v p1) (ih hm' vr hr p2 e)
        | n i =>
          have p1' : σ[i]? = some (some v) := p1
          unfold resv at h2
          cases z : ρ[i]? with
          | none => rw [z] at h2; cases h2
          | some s =>
            rw [z] at h2
            cases s with
            | un => cases h2
            | da x =>
              cases e : resv ρ r with
              | none => rw [e] at h2; cases h2
              | some hr =>
                rw [e] at h2
                cases h2
                obtain ⟨u, w1, w2⟩ := R'.sl i _ (keepd as ρ i x z)
                rw [p1'] at w1
                cases w1
                exact .cons w2 (ih hm' vr hr p2 e)
            | ow ds =>
              cases e : resv ρ r with
              | none => rw [e] at h2; cases h2
              | some hr =>
                rw [e] at h2
                cases h2
                obtain ⟨u, w1, w2⟩ := R'.sl i _ (named as ρ i ds (hm _ (List.mem_cons_self ..)) z)
                rw [p1'] at w1
                cases w1
                exact .cons w2 (ih hm' vr hr p2 e)
            | ja =>
              cases e : resv ρ r with
              | none => rw [e] at h2; cases h2
              | some hr =>
                rw [e] at h2
                cases h2
                obtain ⟨w1, w2⟩ := R'.sl i _ (keepj as ρ i z)
                rw [p1'] at w1
                cases w1
                exact .cons ⟨rfl, w2⟩ (ih hm' vr hr p2 e)
            | jo c => cases h2
  exact all as (fun _ h => h) vs gs hp hr
theorem Rp.jarOk (R : Rp K J n σ H H0 ρ) : ∀ a ∈ n.as, H0 a = none ∧ H a ≠ none := fun a ha => ⟨R.jh0 ha, R.hej (R.jdom a ha).2⟩
/-- behind a call -/
theorem Rp.call {H' : Hp} {v : V} {r : Sl} (hj : J.jx = none) (R : Rp K J n σ H H0 ρ) (h : RetOk K J ⟨H, H0, n.as, n.jv⟩ H' v r) : ∃ H0', Same H0 H0' ∧ Rp K J n σ H' H0' ρ ∧ ResOk K n σ ρ H' H0' v r := by
  obtain ⟨H0', h1, h2, h3, h4, h5, h6⟩ := h
  have h2 : ∀ (a : Addr) (o : HO), a ∉ n.as → H a = some o → H' a = some o := h2
  have h3 : Same H0 H0' := h3
  have h4 : ∀ (a : Addr), H0 a = none → H a ≠ none → H0' a = none := h4
  have h5 : n.as ≠ [] → J.is n.as n.jv H' := h5
  have na : ∀ a, n.He a = none → a ∉ n.as := fun a e ha => (R.jdom a ha).2 e
  refine ⟨H0', h3, ⟨R.len, h1, fun i s e => ?_, R.sep, fun a o ha e => h2 a o ha (R.fr a o ha e), R.base.trans h3, fun a e1 e2 => h4 a (R.fresh a e1 e2) (R.hej e2), h5, R.jdom, R.jx⟩, ?_⟩
  · have q := R.sl i s e
    cases s with
    | un => trivial
    | da d => obtain ⟨u, w1, w2⟩ := q; exact ⟨u, w1, dp_mono h3 d u w2⟩
    | ow ds =>
      obtain ⟨a, xs, w1, w2, w3, w4, w5⟩ := q
      exact ⟨a, xs, w1, h2 a _ (na a w5) w2, dpa_mono h3 ds xs w3, h4 a w4 (by rw [w2]; intro z; cases z), w5⟩
    | ja => exact q
    | jo c => exact absurd ((R.jx i c e).symm.trans hj) (by intro z; cases z)
  · cases r with
    | un => exact h6
    | da d => exact h6
    | ow ds =>
      obtain ⟨a, xs, rfl, w2, w3, w4, w5, _⟩ := h6
      have w5 : H a = none := w5
      exact ⟨a, xs, rfl, w2, w3, w4, R.he0 w5, R.new w5⟩
    | ja => exact h6
    | jo c => exact h6
/-- behind a call with a flat result: all stands as it stood -/
theorem Rp.callF {H' H0f : Hp} {v : V} {r : Sl} {ρf : List Sl} (hj : J.jx = none) (R : Rp K J n σ H H0 ρ) (Rf : Rp K J n σ H H0f ρf) (h : RetOk K J ⟨H, H0f, n.as, n.jv⟩ H' v r) : Rp K J n σ H' H0 ρ := by
  obtain ⟨H0', h1, h2, h3, h4, h5, h6⟩ := h
  have h2 : ∀ (a : Addr) (o : HO), a ∉ n.as → H a = some o → H' a = some o := h2
  have h5 : n.as ≠ [] → J.is n.as n.jv H' := h5
  have na : ∀ a, n.He a = none → a ∉ n.as := fun a e ha => (R.jdom a ha).2 e
  refine ⟨R.len, fun a o e => ?_, fun i s e => ?_, R.sep, fun a o ha e => h2 a o ha (R.fr a o ha e), R.base, R.fresh, h5, R.jdom, R.jx⟩
  · refine h2 a o (fun ha => ?_) (R.sub a o e)
    rw [R.jh0 ha] at e
    cases e
  · have q := R.sl i s e
    cases s with
    | un => trivial
    | da d => exact q
    | ow ds =>
      obtain ⟨a, xs, w1, w2, w3, w4, w5⟩ := q
      exact ⟨a, xs, w1, h2 a _ (na a w5) w2, w3, w4, w5⟩
    | ja => exact q
    | jo c => exact absurd ((R.jx i c e).symm.trans hj) (by intro z; cases z)
theorem flat_any {v : V} {d : D} {H1 : Hp} (h : Dq K H v d) (f : flatD d = true) : Dq K H1 v d := by
  cases d with
  | none => cases h; exact .non
  | bool _ => cases h; exact .bl _
  | int _ => cases h; exact .int _
  | str _ => cases h; exact .str _
  | _ => cases f
end
section
variable {X : Cx} {J : Jr} {e a b c : Expr} {es : List Expr} {pos : Pos}
/-- a slot that may be handed on -/
def given (ρ : List Sl) (i : Nat) : Prop := match ρ[i]? with
  | some (.da _) => True
  | some (.ow _) => True
  | some .ja => True
  | _ => False
def qaNil : QA := fun ρ P => P [] ρ
def qaD (qa : QD) (qr : QA) : QA := fun ρ P => qa ρ fun d ρ1 => qr ρ1 fun as ρ2 => P (.d d :: as) ρ2
def qaN (i : Nat) (qr : QA) : QA := fun ρ P => given ρ i ∧ qr ρ fun as ρ2 => P (.n i :: as) ρ2
theorem paa_nil : PAa J X [] qaNil := pa_mono pa_nil fun σ H Q ⟨n, H0, ρ, P, R, w, k⟩ => k [] H H0 [] ρ R (.refl _) .nil w
theorem arg_mono {K : PySem.W.Frag} {σ : L2.St} {H0 H0' : Hp} (S : Same H0 H0') {v : V} {x : A} (h : ArgOk K σ H0 v x) : ArgOk K σ H0' v x := by
  cases x with
  | d d => exact dp_mono S d v h
  | n i => exact h
theorem paa_d {qa : QD} {qr : QA} (ha : PD J X e qa) (hr : PAa J X es qr) (hs : starEach (e :: es) X.env = (false, eval e X.env) :: starEach es X.env := by rfl) : PAa J X (e :: es) (qaD qa qr) :=
  pa_mono (pa_cons ha hr hs) fun σ H Q ⟨n, H0, ρ, P, R, w, k⟩ => ⟨n, H0, ρ, _, R, w, fun x H1 H01 d ρ1 R1 S1 hd w1 => ⟨n, H01, ρ1, _, R1, w1, fun xs H2 H02 as ρ2 R2 S2 hds w2 =>
    k (x :: xs) H2 H02 (.d d :: as) ρ2 R2 (S1.trans S2) (.cons (dp_mono S2 d x hd) hds) w2⟩⟩
theorem Rp.givenV {K : PySem.W.Frag} {n : En} {σ : L2.St} {H H0 : Hp} {ρ : List Sl} (R : Rp K J n σ H H0 ρ) {i : Nat} (h : given ρ i) : ∃ v, σ[i]? = some (some v) := by
  unfold given at h
  cases e : ρ[i]? with
  | none => rw [e] at h; exact h.elim
  | some s =>
    rw [e] at h
    have q := R.sl i s e
    cases s with
    | un => exact h.elim
    | ja => exact ⟨_, q.1⟩
    | jo c => exact ⟨_, q.1⟩
    | da d => obtain ⟨v, h1, _⟩ := q; exact ⟨v, h1⟩
    | ow ds => obtain ⟨a, xs, h1, _⟩ := q; exact ⟨_, h1⟩
theorem paa_n {i : Nat} {qr : QA} (ha : PE X e (tVar i)) (hr : PAa J X es qr) (hs : starEach (e :: es) X.env = (false, eval e X.env) :: starEach es X.env := by rfl) : PAa J X (e :: es) (qaN i qr) :=
  pa_mono (pa_cons ha hr hs) fun σ H Q ⟨n, H0, ρ, P, R, w, k⟩ => by
    obtain ⟨v, hv⟩ := R.givenV w.1
    exact ⟨v, hv, n, H0, ρ, _, R, w.2, fun xs H2 H02 as ρ2 R2 S2 hds w2 => k (v :: xs) H2 H02 (.n i :: as) ρ2 R2 S2 (.cons hv hds) w2⟩
theorem call_mono {pp : PPr} {qa : QA} (hj : J.jx = none) : ∀ σ H Q, tR X.K J (qCall pp qa) σ H Q → tCall (spD X.K J pp) [] E0 (tA X.K J qa) σ H Q := fun σ H Q ⟨n, H0, ρ, P, R, w, k⟩ =>
  ⟨n, H0, ρ, _, R, w, fun vs H1 H01 as ρ1 R1 S1 ha ⟨gs, hg, w1⟩ => by
    obtain ⟨H0f, Sf, Rf, hf⟩ := Rp.args (.refl H01) as ρ1 H01 vs gs R1 ha hg
    rw [List.append_nil]
    refine ⟨H0f, n.as, n.jv, gs, Rf.sub, R1.jar, Rf.jarOk, hf, _, w1, fun r v H' hb hr => ?_⟩
    have hb : behind ρ1 as P r := hb
    have gen : P r (frzs ρ1 as) → Q v H' := fun hp => by
      obtain ⟨H0', S', R', hres⟩ := Rf.call hj hr
      exact k v H' H0' r _ R' ((S1.trans Sf).trans S') hres hp
    cases r with
    | da d =>
      have hb' : if flatD d = true then P (.da d) ρ1 else P (.da d) (frzs ρ1 as) := hb
      by_cases f : flatD d = true
      · rw [if_pos f] at hb'
        have R' := R1.callF hj Rf hr
        obtain ⟨H0', _, _, _, _, _, h6⟩ := hr
        exact k v H' H01 (.da d) ρ1 R' S1 (flat_any h6 f) hb'
      · rw [if_neg f] at hb'
        exact gen hb'
    | un => exact gen hb
    | ow ds => exact gen hb
    | ja => exact gen hb
    | jo c => exact gen hb⟩
theorem pr_call {pp : PPr} {qa : QA} {k : Nat} {f : Addr} {fd : FuncData} {ps : List Str} {x : Str} {p : Pos} (hj : J.jx = none) (F : FnOk X.prog X.w X.K X.mg X.base CX0 k f fd ps (spD X.K J pp)) (hr : Room k X.A) (hg : Gl X x) (hm : X.mg x = some (.ref f)) (hk : PySem.W.keepIn X.K (.ref f) = true) (hb : Binds X.K fd ps [])
    (ha : PAa J X (e :: es) qa) (hdb : (x == ("__debug__" : Str)) = false := by decide) (he : starEach (e :: es) X.env = (false, eval e X.env) :: starEach es X.env := by rfl) (hpl : (backTo pos (starEach es X.env)).any (·.1) = false := by rfl) :
    PR J X (.Call (.Name x p) (e :: es) [] pos) (qCall pp qa) := pe_mono (pe_call F hr hg hm hk hb .nil pass0 ha hdb he hpl) (call_mono hj)

/-! ### methods of the def's own lists; join -/
def qApp (i : Nat) (qa : QD) : QR := fun ρ P => (∃ ds, ρ[i]? = some (.ow ds)) ∧ qa ρ fun d ρ' => match ρ'[i]? with
  | some (.ow ds) => ds.length < sizeLine ∧ P (.da .none) (ρ'.set i (.ow (ds ++ [d])))
  | _ => False
theorem app_mono {i : Nat} {qa : QD} : ∀ σ H Q, tR X.K J (qApp i qa) σ H Q → tBM X.K "list" rAppend (tVar i) (tCons (tD X.K J qa) tNil) σ H Q := fun σ H Q ⟨n, H0, ρ, P, R, ⟨⟨ds, e⟩, w⟩, k⟩ => by
  obtain ⟨a, xs, h1, h2, h3, h4, h5⟩ := R.sl i _ e
  refine ⟨_, h1, .inl ⟨rfl, xs, SqL.of h2⟩, n, H0, ρ, _, R, w, fun v H1 H01 d ρ1 R1 S1 hd w1 => ?_⟩
  cases e1 : ρ1[i]? with
  | none => rw [e1] at w1; exact w1.elim
  | some s =>
    rw [e1] at w1
    cases s with
    | ow es =>
      obtain ⟨b, ys, g1, g2, g3, g4, g5⟩ := R1.sl i _ e1
      rw [h1] at g1
      cases g1
      have hx := dpa_app g3 (dpa_one hd)
      exact ⟨a, ys, v, rfl, rfl, g2, by rw [dpa_len g3]; exact w1.1, k _ _ H01 (.da .none) _ (R1.own_put e1 h1 hx) S1 .non w1.2⟩
    | _ => exact w1.elim
theorem pr_app {i : Nat} {qa : QD} {o : Expr} {apos : Pos} (ho : PE X o (tVar i)) (ha : PD J X e qa)
    (hbase : attributeBase o "append" X.env (eval o X.env) = eval o X.env := by rfl)
    (hfew : ((backTo pos (starEach [e] X.env)).all (fun x => !x.1) && (backToKw pos (keywordEach [] X.env)).all (fun x => x.1.isSome) && decide ([e].length + ([] : List Keyword).length + (if ([] : List Keyword).isEmpty then 0 else 1) < 30)) = true := by rfl)
    (hline : (apos.endLine == pos.line) = true := by rfl) (hs : starEach [e] X.env = (false, eval e X.env) :: starEach [] X.env := by rfl) (hplain : (backTo pos (starEach [] X.env)).any (·.1) = false := by rfl) :
    PR J X (.Call (.Attribute o "append" apos) [e] [] pos) (qApp i qa) :=
  pe_mono (pe_bm PySem.F.plainAttrs_list PySem.F.slot_list_append PySem.F.type_list_append mt_append ho (pa_cons ha pa_nil hs) hbase hfew hline hs hplain) app_mono
/-- extend by a new list -/
def qExt (i : Nat) (qa : QR) : QR := fun ρ P => (∃ ds, ρ[i]? = some (.ow ds)) ∧ qa ρ fun r ρ' => match r with
  | .ow es => (match ρ'[i]? with
    | some (.ow ds) => ds.length + es.length ≤ sizeLine ∧ P (.da .none) (ρ'.set i (.ow (ds ++ es)))
    | _ => False)
  | _ => False
theorem ext_mono {i : Nat} {qa : QR} : ∀ σ H Q, tR X.K J (qExt i qa) σ H Q → tBM X.K "list" rExtend (tVar i) (tCons (tR X.K J qa) tNil) σ H Q := fun σ H Q ⟨n, H0, ρ, P, R, ⟨⟨ds, e⟩, w⟩, k⟩ => by
  obtain ⟨a, xs, h1, h2, h3, h4, h5⟩ := R.sl i _ e
  refine ⟨_, h1, .inl ⟨rfl, xs, SqL.of h2⟩, n, H0, ρ, _, R, w, fun v H1 H01 r ρ1 R1 S1 hd w1 => ?_⟩
  cases r with
  | ow cs =>
    obtain ⟨b, zs, rfl, z1, z2, _⟩ := hd
    cases e1 : ρ1[i]? with
    | none =>
      have w2 : (match ρ1[i]? with | some (.ow ds) => _ | _ => False) := w1
      rw [e1] at w2
      exact w2.elim
    | some s =>
      have w2 : (match ρ1[i]? with | some (.ow ds) => ds.length + cs.length ≤ sizeLine ∧ P (.da .none) (ρ1.set i (.ow (ds ++ cs))) | _ => False) := w1
      rw [e1] at w2
      cases s with
      | ow es =>
        obtain ⟨b', ys, g1, g2, g3, g4, g5⟩ := R1.sl i _ e1
        rw [h1] at g1
        cases g1
        have hx := dpa_app g3 z2
        exact ⟨a, b, ys, zs, rfl, rfl, g2, z1, by rw [dpa_len g3, dpa_len z2]; exact w2.1, k _ _ H01 (.da .none) _ (R1.own_put e1 h1 hx) S1 .non w2.2⟩
      | _ => exact w2.elim
  | _ => exact w1.elim
theorem pr_ext {i : Nat} {qa : QR} {o : Expr} {apos : Pos} (ho : PE X o (tVar i)) (ha : PR J X e qa)
    (hbase : attributeBase o "extend" X.env (eval o X.env) = eval o X.env := by rfl)
    (hfew : ((backTo pos (starEach [e] X.env)).all (fun x => !x.1) && (backToKw pos (keywordEach [] X.env)).all (fun x => x.1.isSome) && decide ([e].length + ([] : List Keyword).length + (if ([] : List Keyword).isEmpty then 0 else 1) < 30)) = true := by rfl)
    (hline : (apos.endLine == pos.line) = true := by rfl) (hs : starEach [e] X.env = (false, eval e X.env) :: starEach [] X.env := by rfl) (hplain : (backTo pos (starEach [] X.env)).any (·.1) = false := by rfl) :
    PR J X (.Call (.Attribute o "extend" apos) [e] [] pos) (qExt i qa) :=
  pe_mono (pe_bm PySem.F.plainAttrs_list PySem.F.slot_list_extend PySem.F.type_list_extend mt_extend ho (pa_cons ha pa_nil hs) hbase hfew hline hs hplain) ext_mono
/-- x.pop() -/
def qPop (i : Nat) : QR := fun ρ P => match ρ[i]? with
  | some (.ow ds) => ∃ d, ds.getLast? = some d ∧ P (.da d) (ρ.set i (.ow ds.dropLast))
  | _ => False
theorem dpa_dropLast {K : PySem.W.Frag} {H : Hp} {xs : List V} {ds : List D} (h : DqAll K H xs ds) : DqAll K H xs.dropLast ds.dropLast := by
  rw [List.dropLast_eq_take, List.dropLast_eq_take, dpa_len h]
  exact dpa_take _ h
theorem pop_mono {i : Nat} : ∀ σ H Q, tR X.K J (qPop i) σ H Q → tBM0 X.K "list" rPop (tVar i) σ H Q := fun σ H Q ⟨n, H0, ρ, P, R, w, k⟩ => by
  unfold qPop at w
  cases e : ρ[i]? with
  | none => rw [e] at w; exact w.elim
  | some s =>
    rw [e] at w
    cases s with
    | ow ds =>
      obtain ⟨d, hd, hp⟩ := w
      obtain ⟨a, xs, h1, h2, h3, h4, h5⟩ := R.sl i _ e
      rw [List.getLast?_eq_getElem?, ← dpa_len h3] at hd
      obtain ⟨v, hv, hdv⟩ := dpa_get' h3 hd
      exact ⟨_, h1, .inl ⟨rfl, xs, SqL.of h2⟩, a, xs, v, rfl, rfl, h2, hv, k v _ H0 (.da d) _ (R.own_put e h1 (dpa_dropLast h3)) (.refl _) hdv hp⟩
    | _ => exact w.elim
theorem pr_pop {i : Nat} {o : Expr} {apos : Pos} (ho : PE X o (tVar i)) (hbase : attributeBase o "pop" X.env (eval o X.env) = eval o X.env := by rfl) (hline : (apos.endLine == pos.line) = true := by rfl) :
    PR J X (.Call (.Attribute o "pop" apos) [] [] pos) (qPop i) :=
  pe_mono (pe_bm0 PySem.F.plainAttrs_list PySem.F.slot_list_pop PySem.F.type_list_pop mt_pop ho hbase hline) pop_mono
/-- x.bit_length() -/
def bitsI (i : Int) : Int := (Builtin.Int.intBits i : Int)
/-- s.join(row of texts) -/
def strD : D → Option Str
  | .str x => some x
  | _ => none
def strsD : List D → Option (List Str)
  | [] => some []
  | .str x :: r => (strsD r).map (x :: ·)
  | _ :: _ => none
theorem strs_v {K : PySem.W.Frag} {H : Hp} : ∀ {ds : List D} {xs : List V} {ys : List Str}, DqAll K H xs ds → strsD ds = some ys → xs = ys.map V.str
  | [], _, _, h, e => by cases h; cases e; rfl
  | .str x :: r, _, ys, h, e => by
    cases h with
    | cons h1 h2 =>
      unfold strsD at e
      cases z : strsD r with
      | none => rw [z] at e; cases e
      | some zs =>
        rw [z] at e
        cases e
        cases h1
        rw [strs_v h2 z]
        rfl
  | .none :: _, _, _, _, e => by cases e
  | .bool _ :: _, _, _, _, e => by cases e
  | .int _ :: _, _, _, _, e => by cases e
  | .list _ :: _, _, _, _, e => by cases e
  | .tuple _ :: _, _, _, _, e => by cases e
  | .dict _ :: _, _, _, _, e => by cases e
def rowD : D → Option (List D)
  | .list ds => some ds
  | .tuple ds => some ds
  | _ => none
def qJoin (qo qe : QD) : QD := fun ρ P => qo ρ fun d ρ1 => ∃ a, d = .str a ∧ qe ρ1 fun e ρ2 => ∃ ds ys, rowD e = some ds ∧ strsD ds = some ys ∧ (ys.map (·.length)).sum + ys.length * a.length ≤ 16777216 ∧ P (.str (Txt.join a ys)) ρ2
theorem pd_join {qo qe : QD} {o : Expr} {apos : Pos} (ho : PD J X o qo) (he : PV J X e qe) (hs : starEach [e] X.env = [(false, eval e X.env)] := by rfl) (hbase : attributeBase o "join" X.env (eval o X.env) = eval o X.env := by rfl)
    (hline : (apos.endLine == pos.line) = true := by rfl) : PD J X (.Call (.Attribute o "join" apos) [e] [] pos) (qJoin qo qe) :=
  pe_mono (pe_join ho he hs hbase hline) fun σ H Q ⟨n, H0, ρ, P, R, w, k⟩ => ⟨n, H0, ρ, _, R, w, fun v H1 H01 d ρ1 R1 S1 hd w1 => by
    obtain ⟨a, rfl, w1⟩ := w1
    have ev := dp_str hd
    subst ev
    refine ⟨⟨a, rfl⟩, n, H01, ρ1, _, R1, w1, fun u H2 H02 f ρ2 R2 S2 hf ⟨ds, ys, e2, e3, e4, w2⟩ => ?_⟩
    · skip
      have hx : ∃ p xs, u = .ref p ∧ (SqL X.K H2 p xs ∨ SqT X.K H2 p xs) ∧ DqAll X.K H02 xs ds := by
        cases f with
        | list cs =>
          cases e2
          obtain ⟨p, xs, q1, q2, q3⟩ := hf.lst R2.sub
          exact ⟨p, xs, q1, .inl q2, q3⟩
        | tuple cs =>
          cases e2
          obtain ⟨p, xs, q1, q2, q3⟩ := hf.tup
          exact ⟨p, xs, q1, .inr (same_t R2.sub q2), q3⟩
        | _ => cases e2
      obtain ⟨p, xs, rfl, q2, q3⟩ := hx
      have q4 := strs_v q3 e3
      subst q4
      exact ⟨a, p, ys, rfl, rfl, q2, e4, k _ H2 H02 _ ρ2 R2 (S1.trans S2) (.str _) w2⟩⟩
end
end Zd

set_option Elab.async false
set_option linter.all false
set_option maxRecDepth 100000
set_option maxHeartbeats 4000000
namespace Zd
open PySem PySem.Spec PyProof.Rows L2
/-! ### what a for walks -/
def ItOk (K : PySem.W.Frag) (J' : It) (H0 : Hp) (items : List D) : Prop :=
  (∀ i Hc, Same H0 Hc → i < items.length → J'.go i Hc) ∧ (∀ i Hc, Same H0 Hc → items.length ≤ i → J'.stop i Hc) ∧
  (∀ i Hc H0c x H' d, Same H0 H0c → Same H0c Hc → items[i]? = some d → J'.yld i Hc x H' → (H' = Hc ∧ Dq K H0c x d) ∨ ∃ T xs, Hc T = none ∧ H' = upd Hc T (.tup xs) ∧ Dq K (upd H0c T (.tup xs)) x d)
def tI (K : PySem.W.Frag) (J : Jr) (q : QL) : TI := fun σ H R => ∃ (n : En) (H0 : Hp) (ρ : List Sl) (P : List D → List Sl → Prop), Rp K J n σ H H0 ρ ∧ q ρ P ∧
  ∀ J' H' H0' items ρ', Rp K J n σ H' H0' ρ' → Same H0 H0' → ItOk K J' H0' items → P items ρ' → R J' H'
section
variable {X : Cx} {J : Jr} {e a b c tg : Expr} {es : List Expr} {pos : Pos}
abbrev PIt (J : Jr) (X : Cx) (tg e : Expr) (q : QL) : Prop := PI X tg e (tI X.K J q)
theorem pi_mono {w w' : TI} (h : PI X tg e w) (i : ∀ σ H R, w' σ H R → w σ H R) : PI X tg e w' := ⟨fun pins s σ H R I z => h.run pins s σ H R I (i _ _ _ z)⟩
theorem pi_or {w w' : TI} (h : PI X tg e w) (h' : PI X tg e w') : PI X tg e (fun σ H R => w σ H R ∨ w' σ H R) := ⟨fun pins s σ H R I z => z.elim (h.run pins s σ H R I) (h'.run pins s σ H R I)⟩
def sgn (c : Nat) : D := .str ⟨#[c]⟩
def itemsD : D → Option (List D)
  | .list ds => some ds
  | .tuple ds => some ds
  | .str x => some (x.cps.toList.map sgn)
  | _ => none
theorem it_list {K : PySem.W.Frag} {H0 : Hp} {p : Addr} {xs : List V} {ds : List D} (h : SqL K H0 p xs) (hd : DqAll K H0 xs ds) : ItOk K (Itl K p) H0 ds := by
  refine ⟨fun i Hc S hi => ?_, fun i Hc S hi => ⟨xs, S.seq h, by rw [dpa_len hd]; exact hi⟩, fun i Hc H0c x H' d S1 S2 hi hy => ?_⟩
  · have hi' : i < xs.length := by rw [dpa_len hd]; exact hi
    exact ⟨xs, xs[i], S.seq h, List.getElem?_eq_getElem hi'⟩
  · obtain ⟨rfl, hy⟩ := hy
    obtain ⟨u, hv, hdv⟩ := dpa_get' hd hi
    have q := hy xs ((S1.trans S2).seq h)
    rw [hv] at q
    cases q
    exact .inl ⟨rfl, dp_mono S1 d _ hdv⟩
theorem it_tup {K : PySem.W.Frag} {H0 : Hp} {p : Addr} {xs : List V} {ds : List D} (h : SqT K H0 p xs) (hd : DqAll K H0 xs ds) : ItOk K (Itt K p) H0 ds := by
  refine ⟨fun i Hc S hi => ?_, fun i Hc S hi => ⟨xs, same_t S h, by rw [dpa_len hd]; exact hi⟩, fun i Hc H0c x H' d S1 S2 hi hy => ?_⟩
  · have hi' : i < xs.length := by rw [dpa_len hd]; exact hi
    exact ⟨xs, xs[i], same_t S h, List.getElem?_eq_getElem hi'⟩
  · obtain ⟨rfl, hy⟩ := hy
    obtain ⟨u, hv, hdv⟩ := dpa_get' hd hi
    have q := hy xs (same_t (S1.trans S2) h)
    rw [hv] at q
    cases q
    exact .inl ⟨rfl, dp_mono S1 d _ hdv⟩
theorem it_str {K : PySem.W.Frag} {H0 : Hp} {z : Str} : ItOk K (Its z) H0 (z.cps.toList.map sgn) := by
  refine ⟨fun i Hc S hi => ?_, fun i Hc S hi => ?_, fun i Hc H0c x H' d S1 S2 hi hy => ?_⟩
  · rw [List.length_map, Array.length_toList] at hi; exact hi
  · rw [List.length_map, Array.length_toList] at hi; exact hi
  · obtain ⟨rfl, c, hc, rfl⟩ := hy
    rw [List.getElem?_map, Array.getElem?_toList, hc] at hi
    cases hi
    exact .inl ⟨rfl, .str _⟩
def qItD (q : QD) : QL := fun ρ P => q ρ fun d ρ' => ∃ ds, itemsD d = some ds ∧ P ds ρ'
/-- iter of a value that is known -/
theorem iter_l {pins : List (Addr × Obj)} {σ : L2.St} {H : Hp} {s : Shared} {R : It → Hp → Prop} {p : Addr} {xs : List V} (I : Inv X pins σ H s) (h : SqL X.K H p xs) (q : R (Itl X.K p) H) :
    wpAny (model X.prog X.w) X.A (pyIter (.ref p)) (PIE X pins σ tg R) X.xe s := by
  obtain ⟨_, _, z, _⟩ := I.list h
  exact wpAny_pyIter_list z.isList (pi_one (tk := s.toks) I _ (turn_list p _) ⟨_, Heap.get?_push_size _ rfl, rfl, rfl⟩ q)
theorem iter_t {pins : List (Addr × Obj)} {σ : L2.St} {H : Hp} {s : Shared} {R : It → Hp → Prop} {p : Addr} {xs : List V} (I : Inv X pins σ H s) (h : SqT X.K H p xs) (q : R (Itt X.K p) H) :
    wpAny (model X.prog X.w) X.A (pyIter (.ref p)) (PIE X pins σ tg R) X.xe s := by
  obtain ⟨us, _, z, _⟩ := I.tuple h
  exact wpAny_pyIter_tuple (show s.heap.IsTuple p us.toArray from z) (pi_one (tk := s.toks) I _ (turn_tuple p _) ⟨_, Heap.get?_push_size _ rfl, rfl, rfl⟩ q)
theorem iter_s {pins : List (Addr × Obj)} {σ : L2.St} {H : Hp} {s : Shared} {R : It → Hp → Prop} {z : Str} {t : Tok} (I : Inv X pins σ H s) (q : R (Its z) H) :
    wpAny (model X.prog X.w) X.A (pyIter (.str z t)) (PIE X pins σ tg R) X.xe s := by
  cases h : z.cps.all (· < 128) with
  | false => exact wpAny_pyIter_wide h (pi_one (tk := s.toks) I _ (turn_str _ z t _ (.inr rfl)) ⟨_, Heap.get?_push_size _ rfl, rfl, rfl⟩ q)
  | true => exact wpAny_pyIter_ascii h (pi_one (tk := s.toks) I _ (turn_str _ z t _ (.inl rfl)) ⟨_, Heap.get?_push_size _ rfl, rfl, rfl⟩ q)
theorem pit_d {q : QD} (h : PD J X e q) : PIt J X tg e (qItD q) := by
  refine ⟨fun pins s σ H R I ⟨n, H0, ρ, P, Rr, w, k⟩ => ?_⟩
  have run := h.run pins s σ H (fun v H' => ∃ H0' d ρ' ds, Rp X.K J n σ H' H0' ρ' ∧ Same H0 H0' ∧ Dq X.K H0' v d ∧ itemsD d = some ds ∧ P ds ρ') I
    ⟨n, H0, ρ, _, Rr, w, fun v H' H0' d ρ' R' S' hd ⟨ds, e1, hp⟩ => ⟨H0', d, ρ', ds, R', S', hd, e1, hp⟩⟩
  refine thn run fun u s1 ⟨v, H1, I1, r1, H0', d, ρ', ds, R', S', hd, e1, hp⟩ => ?_
  cases hd with
  | lst h1 h2 =>
    cases e1
    cases r1
    exact iter_l I1 (R'.sub.seq h1) (k _ H1 H0' _ ρ' R' S' (it_list h1 h2) hp)
  | tup h1 h2 =>
    cases e1
    cases r1
    exact iter_t I1 (same_t R'.sub h1) (k _ H1 H0' _ ρ' R' S' (it_tup h1 h2) hp)
  | str z =>
    cases e1
    obtain ⟨t, rfl⟩ := r1
    exact iter_s I1 (k _ H1 H0' _ ρ' R' S' it_str hp)
  | _ => cases e1
/-- range -/
def rangeD (lo : Int) : Nat → List D
  | 0 => []
  | n + 1 => .int lo :: rangeD (lo + 1) n
theorem rangeD_len : ∀ (n : Nat) (lo : Int), (rangeD lo n).length = n
  | 0, _ => rfl
  | n + 1, lo => by unfold rangeD; rw [List.length_cons, rangeD_len n]
theorem rangeD_get : ∀ (n i : Nat) (lo : Int), i < n → (rangeD lo n)[i]? = some (.int (lo + i))
  | 0, _, _, h => absurd h (Nat.not_lt_zero _)
  | n + 1, 0, lo, _ => by
    show some (PyData.int lo) = some (.int (lo + (0 : Nat)))
    rw [Int.natCast_zero, Int.add_zero]
  | n + 1, i + 1, lo, h => by
    show (rangeD (lo + 1) n)[i]? = _
    rw [rangeD_get n i (lo + 1) (by omega)]
    have q : lo + 1 + (i : Int) = lo + ((i + 1 : Nat) : Int) := by omega
    rw [q]
theorem it_range {K : PySem.W.Frag} {H0 : Hp} {lo : Int} {n : Nat} : ItOk K (Itr lo n) H0 (rangeD lo n) := by
  refine ⟨fun i Hc S hi => ?_, fun i Hc S hi => ?_, fun i Hc H0c x H' d S1 S2 hi hy => ?_⟩
  · rw [rangeD_len] at hi; exact hi
  · rw [rangeD_len] at hi; exact hi
  · obtain ⟨rfl, rfl⟩ := hy
    have l : i < n := by
      have := (List.getElem?_eq_some_iff.mp hi).1
      rw [rangeD_len] at this
      exact this
    rw [rangeD_get n i lo l] at hi
    cases hi
    exact .inl ⟨rfl, .int _⟩
def qRng1 (q : QL) : QL := fun ρ P => q ρ fun ds ρ' => ∃ j, ds = [.int j] ∧ j < 2 ^ 62 ∧ -(2 ^ 62) ≤ j ∧ P (rangeD 0 j.toNat) ρ'
def qRng2 (q : QL) : QL := fun ρ P => q ρ fun ds ρ' => ∃ i j, ds = [.int i, .int j] ∧ (-(2 ^ 62) ≤ i ∧ i < 2 ^ 62 ∧ -(2 ^ 62) ≤ j ∧ j < 2 ^ 62) ∧ P (rangeD i (j - i).toNat) ρ'
theorem pit_r1 {q : QL} {p : Pos} (hg : Gl X "range") (hm : X.mg "range" = none) (ha : PL J X [a] 1 q) (hs : starEach [a] X.env = [(false, eval a X.env)] := by rfl) : PIt J X tg (.Call (.Name "range" p) [a] [] pos) (qRng1 q) :=
  pi_mono (pi_range1 hg hm ha hs) fun σ H R ⟨n, H0, ρ, P, Rr, w, k⟩ => ⟨n, H0, ρ, _, Rr, w, fun vs H' H0' ds ρ' R' S' hd hl ⟨j, e1, h1, h2, hp⟩ => by
    subst e1
    cases hd with
    | cons q1 q2 =>
      cases q2
      cases q1
      exact ⟨j, rfl, h2, h1, k _ H' H0' _ ρ' R' S' it_range hp⟩⟩
theorem pit_r2 {q : QL} {p : Pos} (hg : Gl X "range") (hm : X.mg "range" = none) (ha : PL J X [a, b] 2 q) (hs : starEach [a, b] X.env = [(false, eval a X.env), (false, eval b X.env)] := by rfl) (hs2 : starEach [b] X.env = [(false, eval b X.env)] := by rfl) :
    PIt J X tg (.Call (.Name "range" p) [a, b] [] pos) (qRng2 q) :=
  pi_mono (pi_range2 hg hm ha hs hs2) fun σ H R ⟨n, H0, ρ, P, Rr, w, k⟩ => ⟨n, H0, ρ, _, Rr, w, fun vs H' H0' ds ρ' R' S' hd hl ⟨i, j, e1, h1, hp⟩ => by
    subst e1
    cases hd with
    | cons q1 q2 =>
      cases q2 with
      | cons q3 q4 =>
        cases q4
        cases q1
        cases q3
        exact ⟨i, j, rfl, h1, k _ H' H0' _ ρ' R' S' it_range hp⟩⟩

/-! ### targets -/
abbrev QG := D → List Sl → (List Sl → Prop) → Prop
abbrev QGs := List D → List Sl → (List Sl → Prop) → Prop
/-- the slots that are stored to -/
def Off (is : List Nat) (σ σ' : L2.St) : Prop := σ'.length = σ.length ∧ ∀ j, j ∉ is → σ'[j]? = σ[j]?
def tG (K : PySem.W.Frag) (J : Jr) (is : List Nat) (q : QG) : TG := fun v σ H Q => ∃ (n : En) (H0 : Hp) (ρ : List Sl) (d : D) (P : List Sl → Prop), Rp K J n σ H H0 ρ ∧ Dq K H0 v d ∧ q d ρ P ∧
  ∀ σ' ρ', Rp K J n σ' H H0 ρ' → Off is σ σ' → P ρ' → Q σ' H
def tGs (K : PySem.W.Frag) (J : Jr) (is : List Nat) (q : QGs) : TGs := fun vs σ H Q => ∃ (n : En) (H0 : Hp) (ρ : List Sl) (ds : List D) (P : List Sl → Prop), Rp K J n σ H H0 ρ ∧ DqAll K H0 vs ds ∧ q ds ρ P ∧
  ∀ σ' ρ', Rp K J n σ' H H0 ρ' → Off is σ σ' → P ρ' → Q σ' H
abbrev PGd (J : Jr) (X : Cx) (tg : Expr) (is : List Nat) (q : QG) : Prop := PG X tg (tG X.K J is q)
abbrev PGds (J : Jr) (X : Cx) (es : List Expr) (is : List Nat) (q : QGs) : Prop := PGs X es (tGs X.K J is q)
theorem pg_mono {t t' : TG} (h : PG X tg t) (i : ∀ v σ H Q, t' v σ H Q → t v σ H Q) : PG X tg t' := ⟨fun pins s σ H v u Q I r w => h.run pins s σ H v u Q I r (i _ _ _ _ w)⟩
theorem pgs_mono {t t' : TGs} (h : PGs X es t) (i : ∀ v σ H Q, t' v σ H Q → t v σ H Q) : PGs X es t' := ⟨fun pins s σ H v u Q I r w => h.run pins s σ H v u Q I r (i _ _ _ _ w)⟩
theorem off_set {i : Nat} {σ : L2.St} {x : Option V} : Off [i] σ (σ.set i x) := ⟨List.length_set .., fun j hj => by
  rw [get_set, if_neg (fun q => hj (by rw [q]; exact List.mem_cons_self ..))]⟩
theorem Off.trans {is js : List Nat} {σ σ1 σ2 : L2.St} (h : Off is σ σ1) (h' : Off js σ1 σ2) : Off (is ++ js) σ σ2 := ⟨h'.1.trans h.1, fun j hj => by
  rw [h'.2 j (fun q => hj (List.mem_append_right _ q)), h.2 j (fun q => hj (List.mem_append_left _ q))]⟩
def qgName (i : Nat) : QG := fun d ρ P => P (ρ.set i (.da d))
theorem pgd_name {i : Nat} (h : PG X tg (gName i)) : PGd J X tg [i] (qgName i) := pg_mono h fun v σ H Q ⟨n, H0, ρ, d, P, R, hd, w, k⟩ => k _ _ (R.set_da hd) off_set w
def qgNil : QGs := fun ds ρ P => ds = [] ∧ P ρ
def qgCons (q : QG) (r : QGs) : QGs := fun ds ρ P => match ds with
  | d :: ds => q d ρ fun ρ' => r ds ρ' P
  | [] => False
theorem pgds_nil : PGds J X [] [] qgNil := pgs_mono pgs_nil fun vs σ H Q ⟨n, H0, ρ, ds, P, R, hd, w, k⟩ => by
  obtain ⟨rfl, hp⟩ := w
  cases hd
  exact ⟨rfl, k σ ρ R ⟨rfl, fun _ _ => rfl⟩ hp⟩
theorem pgds_cons {is js : List Nat} {q : QG} {r : QGs} (h1 : PGd J X e is q) (h2 : PGds J X es js r) (hs : (assignEach (e :: es) X.env).map (·.2) = assign e X.env :: (assignEach es X.env).map (·.2) := by rfl) : PGds J X (e :: es) (is ++ js) (qgCons q r) :=
  pgs_mono (pgs_cons h1 h2 hs) fun vs σ H Q ⟨n, H0, ρ, ds, P, R, hd, w, k⟩ => by
    cases hd with
    | nil => exact w.elim
    | @cons v vr d dr q1 q2 =>
      exact ⟨v, vr, rfl, n, H0, ρ, d, _, R, q1, w, fun σ1 ρ1 R1 O1 w1 => ⟨n, H0, ρ1, dr, P, R1, q2, w1, fun σ2 ρ2 R2 O2 hp => k σ2 ρ2 R2 (O1.trans O2) hp⟩⟩
def qgTup (m : Nat) (r : QGs) : QG := fun d ρ P => match d with
  | .tuple ds => ds.length = m ∧ r ds ρ P
  | _ => False
theorem pgd_tup {is : List Nat} {r : QGs} {m k : Nat} (hc : X.calm = true) (h : PGds J X es is r) (hn : (assignEach es X.env).length = m := by rfl) (hst : (assignEach es X.env).findIdx? (·.1) = none := by rfl) : PGd J X (.Tuple es k pos) is (qgTup m r) :=
  pg_mono (pg_tup hc h hn hst) fun v σ H Q ⟨n, H0, ρ, d, P, R, hd, w, k⟩ => by
    cases hd with
    | tup h1 h2 => exact ⟨_, _, rfl, same_t R.sub h1, by rw [dpa_len h2]; exact w.1, n, H0, ρ, _, P, R, h2, w.2, k⟩
    | _ => exact w.elim
end
end Zd

set_option Elab.async false
set_option linter.all false
set_option maxRecDepth 100000
set_option maxHeartbeats 4000000
namespace Zd
open PySem PySem.Spec PyProof.Rows L2
/-! ### statements -/
structure EndD where
  nx : List Sl → Prop
  rt : Sl → List Sl → Prop
  bk : List Sl → Prop
  ct : List Sl → Prop
abbrev QS := EndD → List Sl → Prop
def tS (K : PySem.W.Frag) (J : Jr) (q : QS) : TS := fun D σ H => ∃ (n : En) (H0 : Hp) (ρ : List Sl) (E : EndD), Rp K J n σ H H0 ρ ∧ q E ρ ∧
  (∀ σ' H' H0' ρ', Rp K J n σ' H' H0' ρ' → Same H0 H0' → E.nx ρ' → D.nx σ' H') ∧ (∀ v σ' H' H0' r ρ', Rp K J n σ' H' H0' ρ' → Same H0 H0' → ResOk K n σ' ρ' H' H0' v r → E.rt r ρ' → D.rt v H') ∧
  (∀ σ' H' H0' ρ', Rp K J n σ' H' H0' ρ' → Same H0 H0' → E.bk ρ' → D.bk σ' H') ∧ (∀ σ' H' H0' ρ', Rp K J n σ' H' H0' ρ' → Same H0 H0' → E.ct ρ' → D.ct σ' H')
section
variable {X : Cx} {J : Jr} {e a b c tg iter elt : Expr} {es : List Expr} {pos : Pos} {st : Stmt} {sts : List Stmt}
abbrev PSd (J : Jr) (X : Cx) (st : Stmt) (q : QS) : Prop := PS X st (tS X.K J q)
abbrev PSsd (J : Jr) (X : Cx) (sts : List Stmt) (q : QS) : Prop := PSs X sts (tS X.K J q)
theorem ps_mono {t t' : TS} (h : PS X st t) (i : ∀ D σ H, t' D σ H → t D σ H) : PS X st t' := ⟨fun pins s σ H D I w => h.run pins s σ H D I (i _ _ _ w)⟩
theorem pss_mono {t t' : TS} (h : PSs X sts t) (i : ∀ D σ H, t' D σ H → t D σ H) : PSs X sts t' := ⟨fun pins s σ H D I w => h.run pins s σ H D I (i _ _ _ w)⟩
def qNext : QS := fun E ρ => E.nx ρ
def qSeq (q r : QS) : QS := fun E ρ => q { E with nx := r E } ρ
theorem pssd_nil : PSsd J X [] qNext := pss_mono pss_nil fun D σ H ⟨n, H0, ρ, E, R, w, k, _⟩ => k σ H H0 ρ R (.refl _) w
theorem pssd_cons {q r : QS} (h : PSd J X st q) (h2 : PSsd J X sts r) : PSsd J X (st :: sts) (qSeq q r) := pss_mono (pss_cons h h2) fun D σ H ⟨n, H0, ρ, E, R, w, k1, k2, k3, k4⟩ =>
  ⟨n, H0, ρ, _, R, w, fun σ1 H1 H01 ρ1 R1 S1 w1 => ⟨n, H01, ρ1, E, R1, w1, fun σ' H' H0' ρ' R' S' z => k1 σ' H' H0' ρ' R' (S1.trans S') z, fun v σ' H' H0' r ρ' R' S' => k2 v σ' H' H0' r ρ' R' (S1.trans S'), fun σ' H' H0' ρ' R' S' z => k3 σ' H' H0' ρ' R' (S1.trans S') z, fun σ' H' H0' ρ' R' S' z => k4 σ' H' H0' ρ' R' (S1.trans S') z⟩, k2, k3, k4⟩
theorem psd_pass : PSd J X (.Pass pos) qNext := ps_mono ps_pass fun D σ H ⟨n, H0, ρ, E, R, w, k, _⟩ => k σ H H0 ρ R (.refl _) w
def qBrk : QS := fun E ρ => E.bk ρ
def qCnt : QS := fun E ρ => E.ct ρ
theorem psd_brk : PSd J X (.Break pos) qBrk := ps_mono ps_break fun D σ H ⟨n, H0, ρ, E, R, w, _, _, k, _⟩ => k σ H H0 ρ R (.refl _) w
theorem psd_cnt : PSd J X (.Continue pos) qCnt := ps_mono ps_continue fun D σ H ⟨n, H0, ρ, E, R, w, _, _, _, k⟩ => k σ H H0 ρ R (.refl _) w
def qDrop (q : QR) : QS := fun E ρ => q ρ fun _ ρ' => E.nx ρ'
theorem psd_expr {q : QR} (h : PR J X e q) (hs : swapsWith e none pos.line X.env = pure false := by rfl) : PSd J X (.Expr e pos) (qDrop q) := ps_mono (ps_expr h hs) fun D σ H ⟨n, H0, ρ, E, R, w, k, _⟩ => ⟨n, H0, ρ, _, R, w, fun v H' H0' r ρ' R' S' _ hp => k σ H' H0' ρ' R' S' hp⟩
def qRet (q : QR) : QS := fun E ρ => q ρ fun r ρ' => E.rt r ρ'
theorem psd_ret {q : QR} (h : PR J X e q) : PSd J X (.Return (some e) pos) (qRet q) := ps_mono (ps_ret h) fun D σ H ⟨n, H0, ρ, E, R, w, _, k, _⟩ => ⟨n, H0, ρ, _, R, w, fun v H' H0' r ρ' R' S' hr hp => k v σ H' H0' r ρ' R' S' hr hp⟩
def qRetN : QS := fun E ρ => E.rt (.da .none) ρ
theorem psd_retN : PSd J X (.Return none pos) qRetN := ps_mono ps_retN fun D σ H ⟨n, H0, ρ, E, R, w, _, k, _⟩ => k .non σ H H0 (.da .none) ρ R (.refl _) Dq.non w
def qIfS (qc : QT) (q r : QS) : QS := fun E ρ => qc ρ fun b ρ' => if b = true then q E ρ' else r E ρ'
theorem psd_if {qc : QT} {q r : QS} {sa sb : List Stmt} (hc : PB J X c qc) (h1 : PSsd J X sa q) (h2 : PSsd J X sb r) : PSd J X (.If c sa sb pos) (qIfS qc q r) := ps_mono (ps_if hc h1 h2) fun D σ H ⟨n, H0, ρ, E, R, w, k1, k2, k3, k4⟩ =>
  ⟨n, H0, ρ, _, R, w, fun x H1 H01 ρ1 R1 S1 w1 => by
    cases x with
    | true => exact ⟨n, H01, ρ1, E, R1, w1, fun σ' H' H0' ρ' R' S' z => k1 σ' H' H0' ρ' R' (S1.trans S') z, fun v σ' H' H0' r ρ' R' S' => k2 v σ' H' H0' r ρ' R' (S1.trans S'), fun σ' H' H0' ρ' R' S' z => k3 σ' H' H0' ρ' R' (S1.trans S') z, fun σ' H' H0' ρ' R' S' z => k4 σ' H' H0' ρ' R' (S1.trans S') z⟩
    | false => exact ⟨n, H01, ρ1, E, R1, w1, fun σ' H' H0' ρ' R' S' z => k1 σ' H' H0' ρ' R' (S1.trans S') z, fun v σ' H' H0' r ρ' R' S' => k2 v σ' H' H0' r ρ' R' (S1.trans S'), fun σ' H' H0' ρ' R' S' z => k3 σ' H' H0' ρ' R' (S1.trans S') z, fun σ' H' H0' ρ' R' S' z => k4 σ' H' H0' ρ' R' (S1.trans S') z⟩⟩
/-- a result is stored in a slot -/
theorem Rp.put {K : PySem.W.Frag} {n : En} {σ : L2.St} {H H0 : Hp} {ρ : List Sl} {v : V} {r : Sl} (R : Rp K J n σ H H0 ρ) (h : ResOk K n σ ρ H H0 v r) (i : Nat) : Rp K J n (σ.set i (some v)) H H0 (ρ.set i r) := by
  cases r with
  | un => exact h.elim
  | da d => exact R.set_da h
  | ow ds =>
    obtain ⟨a, xs, rfl, h2, h3, h4, h5, h6⟩ := h
    exact R.set_ow h2 h3 h4 h5 h6
  | ja => exact h.elim
  | jo c => exact h.elim
def qSet (i : Nat) (q : QR) : QS := fun E ρ => q ρ fun r ρ' => E.nx (ρ'.set i r)
theorem set_mono {i : Nat} {q : QR} {te : TE} (hm : ∀ σ H Q, tR X.K J q σ H Q → te σ H Q) : ∀ D σ H, tS X.K J (qSet i q) D σ H → tAsg te (gName i) D σ H := fun D σ H ⟨n, H0, ρ, E, R, w, k, _⟩ =>
  hm σ H _ ⟨n, H0, ρ, _, R, w, fun v H' H0' r ρ' R' S' hr hp => k _ H' H0' _ (R'.put hr i) S' hp⟩
theorem psd_set {i : Nat} {q : QR} {x : Str} {pos' : Pos} (hN : X.N.Nodup) (hi : X.N[i]? = some x) (hx : Loc X.env.scope x) (he : PR J X e q) (hs : swapsWith e (some (.Name x pos')) pos.line X.env = pure false := by rfl)
    (hf : X.fn x = true ∨ X.env.scope.names.lookup x = some .local := by first | exact .inl rfl | exact .inr rfl | assumption) : PSd J X (.Assign [.Name x pos'] e pos) (qSet i q) :=
  ps_mono (ps_set hN hi hx he hs hf) (set_mono (fun _ _ _ z => z))
/-- a tuple is taken apart -/
def qAsg (q : QD) (g : QG) : QS := fun E ρ => q ρ fun d ρ' => g d ρ' E.nx
theorem psd_asg {is : List Nat} {q : QD} {g : QG} (he : PD J X e q) (hg : PGd J X tg is g) (hs : swapsWithSole [tg] e pos.line X.env = pure false := by rfl) (hw : swappedStores [tg] e X.env = pure none := by rfl)
    (h1 : (assignEach [tg] X.env).map (·.2) = [assign tg X.env] := by rfl) : PSd J X (.Assign [tg] e pos) (qAsg q g) := ps_mono (ps_asg he hg hs hw h1) fun D σ H ⟨n, H0, ρ, E, R, w, k, _⟩ =>
  ⟨n, H0, ρ, _, R, w, fun v H1 H01 d ρ1 R1 S1 hd w1 => ⟨n, H01, ρ1, d, _, R1, hd, w1, fun σ' ρ' R' _ hp => k σ' H1 H01 ρ' R' S1 hp⟩⟩
def qPar (i j : Nat) (q : QL) : QS := fun E ρ => q ρ fun ds ρ' => match ds with
  | [d, e] => E.nx ((ρ'.set i (.da d)).set j (.da e))
  | _ => False
theorem psd_par {i j : Nat} {q : QL} {x y : Str} {px py pt : Pos} {kt k2 pt2} (hc : X.calm = true) (hN : X.N.Nodup) (hi : X.N[i]? = some x) (hj : X.N[j]? = some y) (hij : i ≠ j) (hx : X.env.scope.names.lookup x = some .local) (hy : X.env.scope.names.lookup y = some .local) (ha : PL J X [a, b] 2 q)
    (hw : swappedStores [.Tuple [.Name x px, .Name y py] kt pt] (.Tuple [a, b] k2 pt2) X.env = pure (some [x, y])) (hs : swapsWithSole [.Tuple [.Name x px, .Name y py] kt pt] (.Tuple [a, b] k2 pt2) pos.line X.env = pure false := by rfl) :
    PSd J X (.Assign [.Tuple [.Name x px, .Name y py] kt pt] (.Tuple [a, b] k2 pt2) pos) (qPar i j q) := ps_mono (ps_par hc hN hi hj hij hx hy ha hw hs) fun D σ H ⟨n, H0, ρ, E, R, w, k, _⟩ =>
  ⟨n, H0, ρ, _, R, w, fun vs H1 H01 ds ρ1 R1 S1 hd hl w1 => by
    cases hd with
    | nil => exact w1.elim
    | cons q1 q2 =>
      cases q2 with
      | nil => exact w1.elim
      | cons q3 q4 =>
        cases q4 with
        | nil => exact ⟨_, _, rfl, k _ H1 H01 _ ((R1.set_da q1).set_da q3) S1 w1⟩
        | cons _ _ => exact w1.elim⟩
/-- i += e, i -= e of ints -/
def qAugI (f : Int → Int → Int) (i : Nat) (q : QD) : QS := fun E ρ => ∃ x, ρ[i]? = some (.da (.int x)) ∧ q ρ fun d ρ' => ∃ y, d = .int y ∧ E.nx (ρ'.set i (.da (.int (f x y))))
theorem aug_mono {f : Int → Int → Int} {i : Nat} {q : QD} : ∀ D σ H, tS X.K J (qAugI f i q) D σ H → tAug i (tD X.K J q) (ipI f) D σ H := fun D σ H ⟨n, H0, ρ, E, R, ⟨x, hx, w⟩, k, _⟩ => by
  obtain ⟨v, h1, h2⟩ := R.sl i _ hx
  have ev := dp_int h2
  subst ev
  exact ⟨_, h1, n, H0, ρ, _, R, w, fun u H1 H01 d ρ1 R1 S1 hd ⟨y, ey, hp⟩ => by
    subst ey
    exact ⟨x, y, rfl, dp_int hd, k _ H1 H01 _ (R1.set_da (.int _)) S1 hp⟩⟩
theorem psd_augA {i : Nat} {q : QD} {x : Str} {pos' : Pos} (hN : X.N.Nodup) (hi : X.N[i]? = some x) (hx : Loc X.env.scope x) (he : PD J X e q) (hf : X.fn x = true ∨ X.env.scope.names.lookup x = some .local := by first | exact .inl rfl | exact .inr rfl | assumption) :
    PSd J X (.AugAssign (.Name x pos') .Add e pos) (qAugI (fun i j => i + j) i q) := ps_mono (ps_aug hN hi hx he ip_add hf) aug_mono
theorem psd_augS {i : Nat} {q : QD} {x : Str} {pos' : Pos} (hN : X.N.Nodup) (hi : X.N[i]? = some x) (hx : Loc X.env.scope x) (he : PD J X e q) (hf : X.fn x = true ∨ X.env.scope.names.lookup x = some .local := by first | exact .inl rfl | exact .inr rfl | assumption) :
    PSd J X (.AugAssign (.Name x pos') .Sub e pos) (qAugI (fun i j => i - j) i q) := ps_mono (ps_aug hN hi hx he ip_sub hf) aug_mono

/-! ### loops -/
def loopD (g : QG) (q : QS) (E : EndD) : List D → List Sl → Prop
  | [], ρ => E.nx ρ
  | d :: ds, ρ => g d ρ fun ρ' => q { nx := loopD g q E ds, rt := E.rt, bk := E.nx, ct := loopD g q E ds } ρ'
def qFor (qi : QL) (g : QG) (q : QS) : QS := fun E ρ => qi ρ fun ds ρ' => loopD g q E ds ρ'
theorem psd_for {is : List Nat} {qi : QL} {g : QG} {q : QS} {body : List Stmt} (hp : PassesOwn (model X.prog X.w) X.A X.env X.xe) (hc : X.calm = true) (hi : PIt J X tg iter qi) (hg : PGd J X tg is g) (hb : PSsd J X body q)
    (hs : ∀ x, foldedSetIterable iter X.env x = pure x := by intro _; rfl) : PSd J X (.For tg iter body [] pos) (qFor qi g q) := ps_mono (ps_for hp hc hi hg hb hs) fun D σ H ⟨n, H0, ρ, E, R, w, k1, k2, k3, k4⟩ => by
  refine ⟨n, H0, ρ, _, R, w, fun J' H1 H01 items ρ1 R1 S1 ⟨i1, i2, i3⟩ w1 => ?_⟩
  refine ⟨fun i m σ H => m = items.length - i ∧ i ≤ items.length ∧ ∃ H0c ρc, Rp X.K J n σ H H0c ρc ∧ Same H01 H0c ∧ loopD g q E (items.drop i) ρc, ⟨items.length, by simp, Nat.zero_le _, H01, ρ1, R1, .refl _, w1⟩, ?_⟩
  rintro i m σc Hc ⟨rfl, hle, H0c, ρc, Rc, Sc, wc⟩
  have same : Same H01 Hc := Sc.trans Rc.sub
  by_cases hi : i < items.length
  · have ed : items.drop i = items[i] :: items.drop (i + 1) := List.drop_eq_getElem_cons hi
    rw [ed] at wc
    refine .inr ⟨i1 i Hc same hi, fun σ' H' => ∃ H0c ρc, Rp X.K J n σ' H' H0c ρc ∧ Same H01 H0c ∧ loopD g q E (items.drop (i + 1)) ρc, fun σ' H' ⟨H0d, ρd, Rd, Sd, wd⟩ => ⟨items.length - (i + 1), by omega, rfl, hi, H0d, ρd, Rd, Sd, wd⟩, fun x H' hy => ?_⟩
    have go : ∀ H0e, Rp X.K J n σc H' H0e ρc → Same H01 H0e → Dq X.K H0e x items[i] → tG X.K J is g x σc H' fun σ2 H2 => tS X.K J q { D with
        nx := fun σ' H' => ∃ H0c ρc, Rp X.K J n σ' H' H0c ρc ∧ Same H01 H0c ∧ loopD g q E (items.drop (i + 1)) ρc, ct := fun σ' H' => ∃ H0c ρc, Rp X.K J n σ' H' H0c ρc ∧ Same H01 H0c ∧ loopD g q E (items.drop (i + 1)) ρc, bk := D.nx } σ2 H2 := fun H0e Re Se hd =>
      ⟨n, H0e, ρc, items[i], _, Re, hd, wc, fun σ2 ρ2 R2 _ w2 => ⟨n, H0e, ρ2, _, R2, w2, fun σ' H' H0' ρ' R' S' z => ⟨H0', ρ', R', Se.trans S', z⟩, fun v σ' H' H0' r ρ' R' S' => k2 v σ' H' H0' r ρ' R' ((S1.trans Se).trans S'),
        fun σ' H' H0' ρ' R' S' z => k1 σ' H' H0' ρ' R' ((S1.trans Se).trans S') z, fun σ' H' H0' ρ' R' S' z => ⟨H0', ρ', R', Se.trans S', z⟩⟩⟩
    rcases i3 i Hc H0c x H' items[i] Sc Rc.sub (List.getElem?_eq_getElem hi) hy with ⟨rfl, hd⟩ | ⟨T, xs, hT, rfl, hd⟩
    · exact go H0c Rc Sc hd
    · exact go _ (Rc.alloc hT) (Sc.trans (same_up (Rc.h0 hT))) hd
  · have ei : i = items.length := by omega
    subst ei
    rw [List.drop_length] at wc
    exact .inl ⟨i2 _ Hc same (Nat.le_refl _), k1 σc Hc H0c ρc Rc (S1.trans Sc) wc⟩
def qWhile (qc : QT) (q : QS) : QS := fun E ρ => ∃ W : Nat → List Sl → Prop, (∃ m, W m ρ) ∧ ∀ m ρ, W m ρ → qc ρ fun b ρ' => if b = true then q { nx := fun ρ => ∃ m', m' < m ∧ W m' ρ, rt := E.rt, bk := E.nx, ct := fun ρ => ∃ m', m' < m ∧ W m' ρ } ρ' else E.nx ρ'
theorem psd_while {qc : QT} {q : QS} {body : List Stmt} (hp : PassesOwn (model X.prog X.w) X.A X.env X.xe) (hc : PB J X c qc) (hb : PSsd J X body q) : PSd J X (.While c body [] pos) (qWhile qc q) := ps_mono (ps_while hp hc hb) fun D σ H ⟨n, H0, ρ, E, R, ⟨W, ⟨m0, w0⟩, turn⟩, k1, k2, k3, k4⟩ => by
  refine ⟨fun m σ H => ∃ H0c ρc, Rp X.K J n σ H H0c ρc ∧ Same H0 H0c ∧ W m ρc, ⟨m0, H0, ρ, R, .refl _, w0⟩, ?_⟩
  rintro m σc Hc ⟨H0c, ρc, Rc, Sc, wc⟩
  refine ⟨n, H0c, ρc, _, Rc, turn m ρc wc, fun x H1 H01 ρ1 R1 S1 w1 => ?_⟩
  cases x with
  | true =>
    exact ⟨fun σ' H' => ∃ m', m' < m ∧ ∃ H0c ρc, Rp X.K J n σ' H' H0c ρc ∧ Same H0 H0c ∧ W m' ρc, fun σ' H' ⟨m', h1, h2⟩ => ⟨m', h1, h2⟩, n, H01, ρ1, _, R1, w1, fun σ' H' H0' ρ' R' S' ⟨m', h1, h2⟩ => ⟨m', h1, H0', ρ', R', (Sc.trans S1).trans S', h2⟩, fun v σ' H' H0' r ρ' R' S' => k2 v σ' H' H0' r ρ' R' ((Sc.trans S1).trans S'),
      fun σ' H' H0' ρ' R' S' z => k1 σ' H' H0' ρ' R' ((Sc.trans S1).trans S') z, fun σ' H' H0' ρ' R' S' ⟨m', h1, h2⟩ => ⟨m', h1, H0', ρ', R', (Sc.trans S1).trans S', h2⟩⟩
  | false => exact k1 σc H1 H01 ρ1 R1 (Sc.trans S1) w1

/-! ### list comprehensions -/
def wipeD (ρ : List Sl) : List Nat → List Sl
  | [] => ρ
  | v :: vs => (wipeD ρ vs).set v .un
theorem Rp.wipe {K : PySem.W.Frag} {n : En} {σ : L2.St} {H H0 : Hp} {ρ : List Sl} (R : Rp K J n σ H H0 ρ) : ∀ vs, Rp K J n (L2.wipe σ vs) H H0 (wipeD ρ vs)
  | [] => R
  | v :: vs => (Rp.wipe R vs).forget v none
theorem wipe_get (σ : L2.St) : ∀ (vs : List Nat) (j : Nat), (L2.wipe σ vs)[j]? = if j ∈ vs then (if j < σ.length then some none else none) else σ[j]?
  | [], j => by rw [if_neg (by simp)]; rfl
  | v :: vs, j => by
    show ((L2.wipe σ vs).set v none)[j]? = _
    rw [get_set, wipe_length, wipe_get σ vs j]
    by_cases q : v = j
    · subst q
      rw [if_pos rfl, if_pos (List.mem_cons_self ..)]
    · rw [if_neg q]
      by_cases m : j ∈ vs
      · rw [if_pos m, if_pos (List.mem_cons_of_mem _ m)]
      · rw [if_neg m, if_neg (fun z => (List.mem_cons.mp z).elim (fun z => q z.symm) m)]
theorem wipe_off {σ σ2 : L2.St} {vs is : List Nat} (O : Off is (L2.wipe σ vs) σ2) (h : ∀ i ∈ is, i ∈ vs) : L2.wipe σ2 vs = L2.wipe σ vs := by
  apply List.ext_getElem?
  intro j
  have hl : σ2.length = σ.length := by rw [O.1, wipe_length]
  rw [wipe_get, wipe_get, hl]
  by_cases m : j ∈ vs
  · rw [if_pos m, if_pos m]
  · have q := O.2 j (fun z => m (h j z))
    rw [wipe_get, if_neg m] at q
    rw [if_neg m, if_neg m, q]
theorem wipeD_get (ρ : List Sl) : ∀ (vs : List Nat) (j : Nat), j ∉ vs → (wipeD ρ vs)[j]? = ρ[j]?
  | [], _, _ => rfl
  | v :: vs, j, h => by
    show ((wipeD ρ vs).set v .un)[j]? = _
    rw [get_set, if_neg (fun q => h (by rw [q]; exact List.mem_cons_self ..)), wipeD_get ρ vs j (fun z => h (List.mem_cons_of_mem _ z))]
/-- no list of the def's own is hidden by the comprehension's names -/
def noOw : Option Sl → Prop
  | some (.ow _) => False
  | some (.jo _) => False
  | _ => True
def clean (ρ : List Sl) : List Nat → Prop
  | [] => True
  | v :: vs => noOw ρ[v]? ∧ clean ρ vs
theorem clean_at {ρ : List Sl} : ∀ {vs : List Nat} {j : Nat}, clean ρ vs → j ∈ vs → ∀ ds, ρ[j]? ≠ some (.ow ds)
  | v :: vs, j, h, m, ds, e => by
    rcases List.mem_cons.mp m with q | q
    · subst q
      have z := h.1
      rw [e] at z
      exact z
    · exact clean_at h.2 q ds e
theorem clean_jo {ρ : List Sl} : ∀ {vs : List Nat} {j : Nat}, clean ρ vs → j ∈ vs → ∀ c, ρ[j]? ≠ some (.jo c)
  | v :: vs, j, h, m, c, e => by
    rcases List.mem_cons.mp m with q | q
    · subst q
      have z := h.1
      rw [e] at z
      exact z
    · exact clean_jo h.2 q c e
theorem Rp.unwipe {K : PySem.W.Frag} {n : En} {σ : L2.St} {H H0 H' H0' : Hp} {ρ : List Sl} {vs : List Nat} (R : Rp K J n σ H H0 ρ) (S : Same H0 H0') (hc : clean ρ vs) (R' : Rp K J n (L2.wipe σ vs) H' H0' (wipeD ρ vs)) : Rp K J n σ H' H0' ρ where
  len := R.len
  sub := R'.sub
  sl := fun j s e => by
    by_cases m : j ∈ vs
    · have q := R.sl j s e
      cases s with
      | un => trivial
      | da d => obtain ⟨v, h1, h2⟩ := q; exact ⟨v, h1, dp_mono S d v h2⟩
      | ow ds => exact absurd e (clean_at hc m ds)
      | ja => exact q
      | jo c => exact absurd e (clean_jo hc m c)
    · have q := R'.sl j s (by rw [wipeD_get ρ vs j m]; exact e)
      have g : (L2.wipe σ vs)[j]? = σ[j]? := by rw [wipe_get, if_neg m]
      cases s with
      | un => trivial
      | da d => obtain ⟨v, h1, h2⟩ := q; exact ⟨v, by rw [← g]; exact h1, h2⟩
      | ow ds => obtain ⟨a, xs, h1, h2⟩ := q; exact ⟨a, xs, by rw [← g]; exact h1, h2⟩
      | ja => exact ⟨by rw [← g]; exact q.1, q.2⟩
      | jo c => exact ⟨by rw [← g]; exact q.1, q.2⟩
  sep := R.sep
  fr := R'.fr
  base := R'.base
  fresh := R'.fresh
  jar := R'.jar
  jdom := R'.jdom
  jx := R.jx
def qYes : QT := fun ρ P => P true ρ
abbrev PTsd (J : Jr) (X : Cx) (ifs : List Expr) (q : QT) : Prop := PTs X ifs (tT X.K J q)
theorem pts_mono {t t' : TT} (h : PTs X es t) (i : ∀ σ H Q, t' σ H Q → t σ H Q) : PTs X es t' := ⟨fun pins s σ H Q I w => h.run pins s σ H Q I (i _ _ _ w)⟩
theorem ptsd_nil : PTsd J X [] qYes := pts_mono pts_nil fun σ H Q ⟨n, H0, ρ, P, R, w, k⟩ => k true H H0 ρ R (.refl _) w
theorem ptsd_one {q : QT} (h : PB J X c q) : PTsd J X [c] q := pts_one h
def lcD (g : QG) (qt : QT) (q : QD) (vs : List Nat) (ρ : List Sl) (F : List D → Prop) : List D → List D → Prop
  | [], acc => F acc
  | d :: ds, acc => g d (wipeD ρ vs) fun ρ1 => qt ρ1 fun b ρ2 => if b = true then q ρ2 fun x ρ3 => wipeD ρ3 vs = wipeD ρ vs ∧ acc.length < sizeLine ∧ lcD g qt q vs ρ F ds (acc ++ [x]) else wipeD ρ2 vs = wipeD ρ vs ∧ lcD g qt q vs ρ F ds acc
def qLc (qi : QL) (g : QG) (qt : QT) (q : QD) (vs : List Nat) : QR := fun ρ P => qi ρ fun items ρ1 => clean ρ1 vs ∧ lcD g qt q vs ρ1 (fun acc => P (.ow acc) ρ1) items []
theorem lc_mono {is vs : List Nat} {qi : QL} {g : QG} {qt : QT} {q : QD} (hv : ∀ i ∈ is, i ∈ vs) : ∀ σ H Q, tR X.K J (qLc qi g qt q vs) σ H Q → tLc (tI X.K J qi) (tG X.K J is g) (tT X.K J qt) (tD X.K J q) vs σ H Q := fun σ H Q ⟨n, H0, ρ, P, R, w, k⟩ => by
  refine ⟨n, H0, ρ, _, R, w, fun J' H1 H01 items ρ1 R1 S1 ⟨i1, i2, i3⟩ ⟨hc, w1⟩ => ?_⟩
  intro L hL
  have L0 : n.He L = none := R1.he0 hL
  have La : L ∉ n.as := fun z => (R1.jdom L z).2 L0
  have Lb : n.H0 L = none := R1.base.free (R1.h0 hL)
  have inv : Nat → Nat → Hp → Prop := fun i m H => m = items.length - i ∧ i ≤ items.length ∧ ∃ H0c vacc acc, Rp X.K J n σ H H0c ρ1 ∧ Same H01 H0c ∧ H L = some (.lst vacc) ∧ DqAll X.K H0c vacc acc ∧ H0c L = none ∧ (∀ (i : Nat) (es : List D), ρ1[i]? = some (Sl.ow es) → σ[i]? ≠ some (some (V.ref L))) ∧ lcD g qt q vs ρ1 (fun acc => P (.ow acc) ρ1) (items.drop i) acc
  refine ⟨fun i m H => m = items.length - i ∧ i ≤ items.length ∧ ∃ H0c vacc acc, Rp X.K J n σ H H0c ρ1 ∧ Same H01 H0c ∧ H L = some (.lst vacc) ∧ DqAll X.K H0c vacc acc ∧ H0c L = none ∧ (∀ (i : Nat) (es : List D), ρ1[i]? = some (Sl.ow es) → σ[i]? ≠ some (some (V.ref L))) ∧ lcD g qt q vs ρ1 (fun acc => P (.ow acc) ρ1) (items.drop i) acc,
    ⟨items.length, by simp, Nat.zero_le _, H01, [], [], R1.laid hL, .refl _, upd_same, .nil, R1.h0 hL, R1.new hL, w1⟩, ?_⟩
  rintro i m Hc ⟨rfl, hle, H0c, vacc, acc, Rc, Sc, hl, hacc, h0, hs, wc⟩
  have same : Same H01 Hc := Sc.trans Rc.sub
  by_cases hi : i < items.length
  · have ed : items.drop i = items[i] :: items.drop (i + 1) := List.drop_eq_getElem_cons hi
    rw [ed] at wc
    refine .inr ⟨i1 i Hc same hi, fun H => ∃ H0c vacc acc, Rp X.K J n σ H H0c ρ1 ∧ Same H01 H0c ∧ H L = some (.lst vacc) ∧ DqAll X.K H0c vacc acc ∧ H0c L = none ∧ (∀ (i : Nat) (es : List D), ρ1[i]? = some (Sl.ow es) → σ[i]? ≠ some (some (V.ref L))) ∧ lcD g qt q vs ρ1 (fun acc => P (.ow acc) ρ1) (items.drop (i + 1)) acc,
      fun H' hN => ⟨items.length - (i + 1), by omega, rfl, hi, hN⟩, fun x H' hy => ?_⟩
    have go : ∀ H0e, Rp X.K J n σ H' H0e ρ1 → Same H0c H0e → H' L = some (.lst vacc) → H0e L = none → Dq X.K H0e x items[i] → tG X.K J is g x (L2.wipe σ vs) H' fun σ2 H2 => L2.wipe σ2 vs = L2.wipe σ vs ∧ tT X.K J qt σ2 H2 fun b H3 =>
        if b = true then tD X.K J q σ2 H3 fun y H4 => ∃ acc, H4 L = some (.lst acc) ∧ acc.length < sizeLine ∧ (fun H => ∃ H0c vacc acc, Rp X.K J n σ H H0c ρ1 ∧ Same H01 H0c ∧ H L = some (.lst vacc) ∧ DqAll X.K H0c vacc acc ∧ H0c L = none ∧ (∀ (i : Nat) (es : List D), ρ1[i]? = some (Sl.ow es) → σ[i]? ≠ some (some (V.ref L))) ∧ lcD g qt q vs ρ1 (fun acc => P (.ow acc) ρ1) (items.drop (i + 1)) acc) (upd H4 L (.lst (acc ++ [y])))
        else (fun H => ∃ H0c vacc acc, Rp X.K J n σ H H0c ρ1 ∧ Same H01 H0c ∧ H L = some (.lst vacc) ∧ DqAll X.K H0c vacc acc ∧ H0c L = none ∧ (∀ (i : Nat) (es : List D), ρ1[i]? = some (Sl.ow es) → σ[i]? ≠ some (some (V.ref L))) ∧ lcD g qt q vs ρ1 (fun acc => P (.ow acc) ρ1) (items.drop (i + 1)) acc) H3 := by
      intro H0e Re Se hLe h0e hd
      have Rk : Rp X.K J (n.keep L (.lst vacc)) (L2.wipe σ vs) H' H0e (wipeD ρ1 vs) := (Re.keep hLe h0e L0 hs).wipe vs
      refine ⟨n.keep L (.lst vacc), H0e, _, items[i], _, Rk, hd, wc, fun σ2 ρ2 R2 O2 w2 => ?_⟩
      have ew := wipe_off O2 hv
      refine ⟨ew, n.keep L (.lst vacc), H0e, ρ2, _, R2, w2, fun bb H3 H03 ρ3 R3 S3 w3 => ?_⟩
      have back : ∀ H4 H04 ρ4, Rp X.K J (n.keep L (.lst vacc)) σ2 H4 H04 ρ4 → Same H0e H04 → wipeD ρ4 vs = wipeD ρ1 vs → Rp X.K J n σ H4 H04 ρ1 ∧ H4 L = some (.lst vacc) ∧ H04 L = none := fun H4 H04 ρ4 R4 S4 e4 => by
        have z := R4.wipe vs
        rw [ew, e4] at z
        have z2 := Rp.unkeep L0 Rc.jdom z
        exact ⟨Re.unwipe S4 hc z2, Rp.kept La R4, Rp.kept0 Lb R4⟩
      cases bb with
      | true =>
        refine ⟨n.keep L (.lst vacc), H03, ρ3, _, R3, w3, fun y H4 H04 d ρ4 R4 S4 hy ⟨e4, hlen, w4⟩ => ?_⟩
        obtain ⟨b1, b2, b3⟩ := back H4 H04 ρ4 R4 (S3.trans S4) e4
        refine ⟨vacc, b2, by rw [dpa_len hacc]; exact hlen, H04, vacc ++ [y], acc ++ [d], ?_, ((Sc.trans Se).trans S3).trans S4, upd_same, dpa_app (dpa_mono ((Se.trans S3).trans S4) acc vacc hacc) (dpa_one hy), b3, hs, w4⟩
        -- the list grows: nothing of the state speaks of it
        refine ⟨b1.len, fun c o z => ?_, fun j s z => ?_, b1.sep, fun c o hcn z => ?_, b1.base, b1.fresh, fun z => ?_, b1.jdom, b1.jx⟩
        · rw [upd_ne (ne_of_none z b3)]; exact b1.sub c o z
        · have qq := b1.sl j s z
          cases s with
          | un => trivial
          | da d => exact qq
          | ow ds =>
            obtain ⟨a, xs, p1, p2, p3, p4, p5⟩ := qq
            have na : a ≠ L := fun t => hs j ds z (by rw [p1, t])
            exact ⟨a, xs, p1, by rw [upd_ne na]; exact p2, p3, p4, p5⟩
          | ja => exact qq
          | jo c => exact ⟨qq.1, qq.2.1, qq.2.2.loc (fun c hcn => upd_ne (fun t => La (by rw [← t]; exact hcn))) (keep_upd b2 rfl)⟩
        · rw [upd_ne (ne_of_none z L0)]; exact b1.fr c o hcn z
        · exact J.loc (fun c hcn => upd_ne (fun t => La (by rw [← t]; exact hcn))) (keep_upd b2 rfl) (b1.jar z)
      | false =>
        obtain ⟨e3, w3⟩ := w3
        obtain ⟨b1, b2, b3⟩ := back H3 H03 ρ3 R3 S3 e3
        exact ⟨H03, vacc, acc, b1, (Sc.trans Se).trans S3, b2, dpa_mono (Se.trans S3) acc vacc hacc, b3, hs, w3⟩
    rcases i3 i Hc H0c x H' items[i] Sc Rc.sub (List.getElem?_eq_getElem hi) hy with ⟨rfl, hd⟩ | ⟨T, xs, hT, rfl, hd⟩
    · exact go H0c Rc (.refl _) hl h0 hd
    · have nT : L ≠ T := ne_of_none hl hT
      exact go _ (Rc.alloc hT) (same_up (Rc.h0 hT)) (by rw [upd_ne nT]; exact hl) (by rw [upd_ne nT]; exact h0) hd
  · have ei : i = items.length := by omega
    subst ei
    rw [List.drop_length] at wc
    exact .inl ⟨i2 _ Hc same (Nat.le_refl _), k _ Hc H0c (.ow acc) ρ1 Rc (S1.trans Sc) ⟨L, vacc, rfl, hl, hacc, h0, L0, hs⟩ wc⟩
theorem pr_lc {ifs : List Expr} {scope : Scope} {own : List (Str × Nat)} {is : List Nat} {qi : QL} {g : QG} {qt : QT} {q : QD} (hc : X.calm = true) (hN : X.N.Nodup) (hi : PIt J X tg iter qi) (ok : BlkOk X.N X.env.scope scope own)
    (hg : ∀ (s : Shared) (H : Hp) (C : Addr) (cl : List (Str × Addr)) (fp : List Addr), PGd J (X.blk s H scope (compEnvC scope cl C X.env) fp) tg is g) (ht : ∀ (s : Shared) (H : Hp) (C : Addr) (cl : List (Str × Addr)) (fp : List Addr), PTsd J (X.blk s H scope (compEnvC scope cl C X.env) fp) ifs qt)
    (he : ∀ (s : Shared) (H : Hp) (C : Addr) (cl : List (Str × Addr)) (fp : List Addr), PD J (X.blk s H scope (compEnvC scope cl C X.env) fp) elt q) (hv : ∀ i ∈ is, i ∈ own.map (·.2)) (hs : ∀ x, foldedSetIterable iter X.env x = pure x := by intro _; rfl) :
    PR J X (.ListComp elt [⟨tg, iter, ifs, 0⟩] scope pos) (qLc qi g qt q (own.map (·.2))) := pe_mono (pe_lc hc hN hi ok hg ht he hs) (lc_mono hv)
theorem psd_setLc {i : Nat} {y : Str} {py spos : Pos} {ifs : List Expr} {scope : Scope} {own : List (Str × Nat)} {is : List Nat} {qi : QL} {g : QG} {qt : QT} {q : QD} (hc : X.calm = true) (hN : X.N.Nodup) (hy : X.N[i]? = some y) (hyl : X.env.scope.names.lookup y = some .local)
    (hsw : swapsWith (.ListComp elt [⟨tg, iter, ifs, 0⟩] scope pos) (some (.Name y py)) spos.line X.env = pure true) (hi : PIt J X tg iter qi) (ok : BlkOk X.N X.env.scope scope own)
    (hg : ∀ (s : Shared) (H : Hp) (C : Addr) (cl : List (Str × Addr)) (fp : List Addr), PGd J (X.blk s H scope (compEnvC scope cl C X.env) fp) tg is g) (ht : ∀ (s : Shared) (H : Hp) (C : Addr) (cl : List (Str × Addr)) (fp : List Addr), PTsd J (X.blk s H scope (compEnvC scope cl C X.env) fp) ifs qt)
    (he : ∀ (s : Shared) (H : Hp) (C : Addr) (cl : List (Str × Addr)) (fp : List Addr), PD J (X.blk s H scope (compEnvC scope cl C X.env) fp) elt q) (hv : ∀ i ∈ is, i ∈ own.map (·.2)) (hs : ∀ x, foldedSetIterable iter X.env x = pure x := by intro _; rfl) :
    PSd J X (.Assign [.Name y py] (.ListComp elt [⟨tg, iter, ifs, 0⟩] scope pos) spos) (qSet i (qLc qi g qt q (own.map (·.2)))) := ps_mono (ps_setLc hc hN hy hyl hsw hi ok hg ht he hs) (set_mono (lc_mono hv))
end

/-! ### a def keeps its promise -/
def slA : Ag → Sl
  | .d x => .da x
  | .j => .ja
def startD (m : Nat) (gs : List Ag) : List Sl := gs.map slA ++ List.replicate (m - gs.length) .un
theorem pair_len {α β : Type} {p : α → β → Prop} : ∀ {xs : List α} {ys : List β}, Paired p xs ys → xs.length = ys.length
  | _, _, .nil => rfl
  | _, _, .cons _ t => by rw [List.length_cons, List.length_cons, pair_len t]
theorem pair_get {α β : Type} {p : α → β → Prop} : ∀ {xs : List α} {ys : List β} {i : Nat} {y : β}, Paired p xs ys → ys[i]? = some y → ∃ x, xs[i]? = some x ∧ p x y
  | _, _, _, _, .nil, e => by simp at e
  | _, _, 0, _, .cons h _, e => by cases e; exact ⟨_, rfl, h⟩
  | _, _, i + 1, _, .cons _ t, e => pair_get (i := i) t e
theorem def_body {X : Cx} {J : Jr} {body : List Stmt} {sc : Scope} {N ps : List Str} {pp : PPr} {qs : QS} {vs : List V} {H : Hp} {Q : VK} {E : XK} (S : FnScope N ps sc) (hl : ∀ gs R, pp gs R → gs.length = ps.length) (hb : PSsd J X body qs)
    (spec : ∀ gs R, pp gs R → qs ⟨fun _ => R (.da .none), fun r _ => R r, fun _ => False, fun _ => False⟩ (startD N.length gs)) (z : spD X.K J pp vs H Q E) : ∃ t, PSs X body t ∧ t { nx := fun _ H' => Q .non H', rt := Q } (L2.start N vs) H := by
  obtain ⟨H0, as, jv, gs, h1, h2, h3, h4, R, h5, h6⟩ := z
  let K := X.K
  refine ⟨_, hb, ⟨H, H0, as, jv⟩, H0, startD N.length gs, ⟨fun _ => R (.da .none), fun r _ => R r, fun _ => False, fun _ => False⟩, ?_, spec gs R h5, fun σ' H' H0' ρ' R' S' z => h6 (.da .none) .non H' z (R'.ret (r := .da .none) Dq.non), fun v σ' H' H0' r ρ' R' S' hr z => h6 r v H' z (R'.ret hr), fun _ _ _ _ _ _ z => z, fun _ _ _ _ _ _ z => z⟩
  have hlen := pair_len h4
  refine ⟨?_, h1, fun i s e => ?_, fun i j ds es _ e _ => ?_, fun a o _ e => e, .refl _, fun a e _ => e, h2, h3, fun i c e => ?_⟩
  · unfold L2.start startD
    rw [List.length_append, List.length_append, List.length_map, List.length_map, List.length_replicate, List.length_replicate, hlen]
  · unfold startD at e
    by_cases q : i < gs.length
    · rw [List.getElem?_append_left (by rw [List.length_map]; exact q), List.getElem?_map] at e
      have hs : (L2.start N vs)[i]? = vs[i]?.map some := by
        unfold L2.start
        rw [List.getElem?_append_left (by rw [List.length_map, hlen]; exact q), List.getElem?_map]
      cases z : gs[i]? with
      | none => rw [z] at e; cases e
      | some g =>
        rw [z] at e
        cases e
        obtain ⟨v, w1, w2⟩ := pair_get h4 z
        cases g with
        | d x => exact ⟨v, by rw [hs, w1]; rfl, w2⟩
        | j => exact ⟨by rw [hs, w1, w2.1]; rfl, w2.2⟩
    · rw [List.getElem?_append_right (by rw [List.length_map]; omega), List.getElem?_replicate] at e
      split at e
      · cases e; trivial
      · cases e
  · unfold startD at e
    by_cases q : i < gs.length
    · rw [List.getElem?_append_left (by rw [List.length_map]; exact q), List.getElem?_map] at e
      cases z : gs[i]? with
      | none => rw [z] at e; cases e
      | some g => rw [z] at e; cases g <;> cases e
    · rw [List.getElem?_append_right (by rw [List.length_map]; omega), List.getElem?_replicate] at e
      split at e <;> cases e
  · exfalso
    unfold startD at e
    by_cases q : i < gs.length
    · rw [List.getElem?_append_left (by rw [List.length_map]; exact q), List.getElem?_map] at e
      cases z : gs[i]? with
      | none => rw [z] at e; cases e
      | some g => rw [z] at e; cases g <;> cases e
    · rw [List.getElem?_append_right (by rw [List.length_map]; omega), List.getElem?_replicate] at e
      split at e <;> cases e
end Zd

set_option Elab.async false
set_option linter.all false
set_option maxRecDepth 100000
set_option maxHeartbeats 4000000
namespace Zd
open PySem PySem.Spec PyProof.Rows L2
/-! ### defs by name -/
/-- a def of the text, as it stands behind the top -/
abbrev FnP (K : PySem.W.Frag) (x : Str) (st : Stmt) (f : Addr) (fd : FuncData) : Prop := FunD K x x (defArgs st) (defBody st) (defScope st) [] [] f fd
/-- its arguments by keywords: idx tells where each parameter's value stands among them -/
def KwOk (K : PySem.W.Frag) (fd : FuncData) (ps ks : List Str) (idx : List Nat) : Prop := ∀ (s : Shared) (ws : List Value), K.In s.heap → ws.length = ks.length → BindsTo s fd ⟨[], ks.zip ws⟩ (ps.zip (idx.map fun i => ws.getD i .none))
/-- a def that keeps its promise, ready to be called -/
structure CalD (P : Program) (w : World) (K : PySem.W.Frag) (mg : Str → Option Value) (base : Heap) (J : Jr) (k : Nat) (x : Str) (st : Stmt) (ps : List Str) (pp : PPr) : Prop where
  nj : J.jx = none
  ex : ∃ f fd, FnOk P w K mg base CX0 k f fd ps (spD K J pp) ∧ mg x = some (.ref f) ∧ FnP K x st f fd ∧ Binds K fd ps []
section
variable {X : Cx} {J : Jr} {e a b c : Expr} {es : List Expr} {pos : Pos}
theorem pr_callC {pp : PPr} {qa : QA} {k k' : Nat} {ps : List Str} {x : Str} {st : Stmt} {p : Pos} (C : CalD X.prog X.w X.K X.mg X.base J k x st ps pp) (hr : Room k' X.A) (hk : k ≤ k') (hg : Gl X x)
    (ha : PAa J X (e :: es) qa) (hdb : (x == ("__debug__" : Str)) = false := by decide) (he : starEach (e :: es) X.env = (false, eval e X.env) :: starEach es X.env := by rfl) (hpl : (backTo pos (starEach es X.env)).any (·.1) = false := by rfl) :
    PR J X (.Call (.Name x p) (e :: es) [] pos) (qCall pp qa) := by
  obtain ⟨f, fd, F, hm, G, hb⟩ := C.ex
  exact pr_call C.nj F (hr.mono hk) hg hm G.kp hb ha hdb he hpl
/-- the keywords' values, from the left -/
abbrev PKa (J : Jr) (X : Cx) (kws : List Keyword) (q : QA) : Prop := PK X kws (tA X.K J q)
theorem pk_mono {kws : List Keyword} {t t' : TA} (h : PK X kws t) (i : ∀ σ H Q, t' σ H Q → t σ H Q) : PK X kws t' := ⟨fun pos pins s σ H Q I w => h.run pos pins s σ H Q I (i _ _ _ w)⟩
theorem pka_nil : PKa J X [] qaNil := pk_mono pk_nil fun σ H Q ⟨n, H0, ρ, P, R, w, k⟩ => k [] H H0 [] ρ R (.refl _) .nil w
theorem pka_d {nm : Option Str} {kpos : Pos} {kws : List Keyword} {qa : QD} {qr : QA} (ha : PD J X e qa) (hr : PKa J X kws qr) : PKa J X (⟨nm, e, kpos⟩ :: kws) (qaD qa qr) :=
  pk_mono (pk_cons ha hr) fun σ H Q ⟨n, H0, ρ, P, R, w, k⟩ => ⟨n, H0, ρ, _, R, w, fun x H1 H01 d ρ1 R1 S1 hd w1 => ⟨n, H01, ρ1, _, R1, w1, fun xs H2 H02 as ρ2 R2 S2 hds w2 =>
    k (x :: xs) H2 H02 (.d d :: as) ρ2 R2 (S1.trans S2) (.cons (dp_mono S2 d x hd) hds) w2⟩⟩
theorem pka_n {nm : Option Str} {kpos : Pos} {kws : List Keyword} {i : Nat} {qr : QA} (ha : PE X e (tVar i)) (hr : PKa J X kws qr) : PKa J X (⟨nm, e, kpos⟩ :: kws) (qaN i qr) :=
  pk_mono (pk_cons ha hr) fun σ H Q ⟨n, H0, ρ, P, R, w, k⟩ => by
    obtain ⟨v, hv⟩ := R.givenV w.1
    exact ⟨v, hv, n, H0, ρ, _, R, w.2, fun xs H2 H02 as ρ2 R2 S2 hds w2 => k (v :: xs) H2 H02 (.n i :: as) ρ2 R2 S2 (.cons hv hds) w2⟩
/-- the arguments in the parameters' order -/
def reord {α : Type} (d : α) (idx : List Nat) (xs : List α) : List α := idx.map fun i => xs.getD i d
def qReord (idx : List Nat) (m : Nat) (q : QA) : QA := fun ρ P => q ρ fun as ρ' => as.length = m ∧ P (reord (.d .none) idx as) ρ'
theorem pe_callK0 {sp : Sp} {k : Nat} {f : Addr} {fd : FuncData} {ps ks : List Str} {idx : List Nat} {x : Str} {p : Pos} {kws : List Keyword} {tk : TA} {E : XK} {CX : CXT} (F : FnOk X.prog X.w X.K X.mg X.base CX k f fd ps sp) (hr : Room k X.A) (hg : Gl X x) (hm : X.mg x = some (.ref f)) (hk : PySem.W.keepIn X.K (.ref f) = true)
    (hb : KwOk X.K fd ps ks idx) (hix : ∀ i ∈ idx, i < ks.length) (hil : idx.length = ps.length) (hx : Passes CX X E) (hkw : PK X kws tk) (hall : (backToKw pos (keywordEach kws X.env)).all (·.1.isSome) = true) (hks : (backToKw pos (keywordEach kws X.env)).filterMap (·.1) = ks)
    (hdb : (x == ("__debug__" : Str)) = false) (hpl : ((backTo pos (starEach [] X.env)).any (·.1) || (backToKw pos (keywordEach kws X.env)).any (·.1.isNone)) = false) :
    PE X (.Call (.Name x p) [] kws pos) (fun σ H Q => tk σ H fun zs H2 => zs.length = ks.length ∧ sp (reord .non idx zs) H2 Q E) := by
  refine ⟨fun pins s σ H Q I h => wpAny_Call_Name_kw (ld_glob I hg hm ?_ hdb)⟩
  refine PySem.W.callWith_KW0 (h₀ := X.base) I.ok.mod.kin hk hall (thn (hkw.run pos pins s σ H _ I h) fun ws s2 ⟨zs, H2, I2, rz, hl, q2⟩ => ⟨I2.kIn, ?_⟩) hpl
  have hlw : ws.length = ks.length := by rw [← rz.length, hl]
  have rr : Vals (reord .non idx zs) (idx.map fun i => ws.getD i .none) := by
    have all : ∀ (js : List Nat), (∀ j ∈ js, j < ks.length) → Vals (reord .non js zs) (js.map fun i => ws.getD i .none) := by
      intro js
      induction js with
      | nil => exact fun _ => .nil
      | cons j r ih =>
        intro hj
        refine .cons ?_ (ih fun i hi => hj i (List.mem_cons_of_mem _ hi))
        have hz : j < zs.length := by rw [hl]; exact hj j (List.mem_cons_self ..)
        obtain ⟨u, hu, ru⟩ := Vals.get rz (List.getElem?_eq_getElem hz)
        show RelV (zs.getD j V.non) (ws.getD j Value.none)
        rw [List.getD_eq_getElem?_getD, List.getD_eq_getElem?_getD, List.getElem?_eq_getElem hz, hu]
        exact ru
    exact all idx hix
  rw [hks]
  refine wpAny_call (codeAny_mono (F.run X.A X.stack s2 H2 ⟨[], ks.zip ws⟩ _ _ Q E hr I2.env0 (hb s2 ws I2.kIn hlw) rr q2) fun r s' hq => ?_)
  cases r with
  | error er => exact hx pins σ H2 s2 er s' I2 hq
  | ok fl =>
    cases fl with
    | ret u => exact I2.after hq
    | _ => exact hq.elim
theorem pair_reord {p : V → A → Prop} (h0 : p .non (.d .none)) : ∀ (idx : List Nat) {vs : List V} {as : List A}, Paired p vs as → Paired p (reord .non idx vs) (reord (.d .none) idx as)
  | [], _, _, _ => .nil
  | i :: r, vs, as, h => by
    refine .cons ?_ (pair_reord h0 r h)
    show p (vs.getD i V.non) (as.getD i (A.d PyData.none))
    rw [List.getD_eq_getElem?_getD, List.getD_eq_getElem?_getD]
    cases e : as[i]? with
    | none =>
      have : vs[i]? = none := List.getElem?_eq_none_iff.mpr (by rw [pair_len h]; exact List.getElem?_eq_none_iff.mp e)
      rw [this]
      exact h0
    | some x =>
      obtain ⟨v, hv, hp⟩ := pair_get h e
      rw [hv]
      exact hp
theorem pr_callKC {pp : PPr} {qa : QA} {k k' : Nat} {ps ks : List Str} {idx : List Nat} {x : Str} {st : Stmt} {p : Pos} {kws : List Keyword} (C : CalD X.prog X.w X.K X.mg X.base J k x st ps pp) (hr : Room k' X.A) (hk : k ≤ k') (hg : Gl X x)
    (hb : ∀ fd (f : Addr), FnP X.K x st f fd → KwOk X.K fd ps ks idx) (ha : PKa J X kws qa) (hix : ∀ i ∈ idx, i < ks.length) (hil : idx.length = ps.length)
    (hall : (backToKw pos (keywordEach kws X.env)).all (·.1.isSome) = true := by rfl) (hks : (backToKw pos (keywordEach kws X.env)).filterMap (·.1) = ks := by rfl)
    (hdb : (x == ("__debug__" : Str)) = false := by decide) (hpl : ((backTo pos (starEach [] X.env)).any (·.1) || (backToKw pos (keywordEach kws X.env)).any (·.1.isNone)) = false := by rfl) :
    PR J X (.Call (.Name x p) [] kws pos) (qCall pp (qReord idx ks.length qa)) := by
  obtain ⟨f, fd, F, hm, G, _⟩ := C.ex
  refine pe_mono (pe_callK0 F (hr.mono hk) hg hm G.kp (hb fd f G) hix hil pass0 ha hall hks hdb hpl) fun σ H Q z => ?_
  obtain ⟨n, H0, ρ, P, R, w, kk⟩ := z
  refine ⟨n, H0, ρ, _, R, w, fun vs H1 H01 as ρ1 R1 S1 hp ⟨hl, w1⟩ => ⟨by rw [pair_len hp, hl], ?_⟩⟩
  have z2 : tCall (spD X.K J pp) [] E0 (fun σ' H' Q' => Q' (reord .non idx vs) H') σ H1 Q := by
    obtain ⟨gs, hg2, w2⟩ := w1
    obtain ⟨H0f, Sf, Rf, hf⟩ := Rp.args (.refl H01) (reord (.d .none) idx as) ρ1 H01 (reord .non idx vs) gs R1 (pair_reord .non idx hp) hg2
    show spD X.K J pp (reord .non idx vs ++ []) H1 Q E0
    rw [List.append_nil]
    refine ⟨H0f, n.as, n.jv, gs, Rf.sub, R1.jar, Rf.jarOk, hf, _, w2, fun r v H' hb hr => ?_⟩
    have hb : behind ρ1 (reord (.d .none) idx as) P r := hb
    have gen : P r (frzs ρ1 (reord (.d .none) idx as)) → Q v H' := fun hp => by
      obtain ⟨H0', S', R', hres⟩ := Rf.call C.nj hr
      exact kk v H' H0' r _ R' ((S1.trans Sf).trans S') hres hp
    cases r with
    | da d =>
      have hb' : if flatD d = true then P (.da d) ρ1 else P (.da d) (frzs ρ1 (reord (.d .none) idx as)) := hb
      by_cases f : flatD d = true
      · rw [if_pos f] at hb'
        have R' := R1.callF C.nj Rf hr
        obtain ⟨H0', _, _, _, _, _, h6⟩ := hr
        exact kk v H' H01 (.da d) ρ1 R' S1 (flat_any h6 f) hb'
      · rw [if_neg f] at hb'
        exact gen hb'
    | un => exact gen hb
    | ow ds => exact gen hb
    | ja => exact gen hb
    | jo c => exact gen hb
  have z3 : spD X.K J pp (reord .non idx vs ++ []) H1 Q E0 := z2
  rw [List.append_nil] at z3
  exact z3
/-- an item of the def's own list is stored -/
theorem dpa_set {K : PySem.W.Frag} {H : Hp} {v : V} {d : D} (h : Dq K H v d) : ∀ {ds : List D} {vs : List V} (j : Nat), DqAll K H vs ds → DqAll K H (vs.set j v) (ds.set j d)
  | [], _, _, q => by cases q; exact .nil
  | _ :: _, _, 0, q => by cases q with | cons q1 q2 => exact .cons h q2
  | _ :: _, _, j + 1, q => by cases q with | cons q1 q2 => exact .cons q1 (dpa_set h j q2)
def isOw (s : Option Sl) : Prop := match s with
  | some (.ow _) => True
  | _ => False
def putOw (s : Option Sl) (P : List D → Prop) : Prop := match s with
  | some (.ow ds) => P ds
  | _ => False
def qPut (i : Nat) (qe qi : QD) : QS := fun E ρ => qe ρ fun d ρ1 => isOw ρ1[i]? ∧ qi ρ1 fun k ρ2 => ∃ kk, k = .int kk ∧ putOw ρ2[i]? fun ds => ∃ j, ixN ds.length kk = some j ∧ E.nx (ρ2.set i (.ow (ds.set j d)))
theorem psd_put {i : Nat} {qe qi : QD} {o ix : Expr} {p2 : Pos} (ho : PE X o (tVar i)) (hi : PD J X ix qi) (he : PD J X e qe) (hs : swapsWithSole [.Subscript o ix p2] e pos.line X.env = pure false := by rfl) (hw : swappedStores [.Subscript o ix p2] e X.env = pure none := by rfl)
    (h1 : (assignEach [.Subscript o ix p2] X.env).map (·.2) = [assign (.Subscript o ix p2) X.env] := by rfl)
    (hz : ∀ u, assign (.Subscript o ix p2) X.env u = (do
      let ov ← holding [u] (eval o X.env)
      let iv ← holding [u, ov] (eval ix X.env)
      standAt p2
      holding [u, ov, iv] (setItem ov iv u)
      release [u, ov, iv] []) := by intro _; rfl) : PSd J X (.Assign [.Subscript o ix p2] e pos) (qPut i qe qi) :=
  ps_mono (ps_asg he (pg_sub ho hi set_list hz) hs hw h1) fun D σ H ⟨n, H0, ρ, E, R, w, k, _⟩ => ⟨n, H0, ρ, _, R, w, fun v H1 H01 d ρ1 R1 S1 hd ⟨ho, w1⟩ => by
    cases e1 : ρ1[i]? with
    | none => rw [e1] at ho; exact ho.elim
    | some s =>
      rw [e1] at ho
      cases s with
      | ow ds =>
        obtain ⟨a, xs, g1, g2, g3, g4, g5⟩ := R1.sl i _ e1
        refine ⟨_, g1, n, H01, ρ1, _, R1, w1, fun u H2 H02 kd ρ2 R2 S2 hk ⟨kk, ek, w2⟩ => ?_⟩
        subst ek
        cases e2 : ρ2[i]? with
        | none => rw [e2] at w2; exact w2.elim
        | some s2 =>
          rw [e2] at w2
          cases s2 with
          | ow es =>
            obtain ⟨j, hj, hp⟩ := w2
            obtain ⟨b, ys, f1, f2, f3, f4, f5⟩ := R2.sl i _ e2
            rw [g1] at f1
            cases f1
            exact ⟨a, ys, kk, j, rfl, dp_int hk, f2, by rw [dpa_len f3]; exact hj, k σ _ H02 _ (R2.own_put e2 g1 (dpa_set (dp_mono S2 d v hd) j f3)) (S1.trans S2) hp⟩
          | _ => exact w2.elim
      | _ => exact ho.elim⟩
/-- data that the module holds -/
theorem pd_glob {x : Str} {d : D} {p : Pos} (hg : Gl X x) (h : ∃ u v, X.mg x = some u ∧ RelV v u ∧ ∀ H0, Dq X.K H0 v d) (hdb : (x == ("__debug__" : Str)) = false := by decide) : PD J X (.Name x p) (qC d) := by
  obtain ⟨u, v, h1, h2, h3⟩ := h
  exact pd_c (pe_glob hg h1 h2 hdb) h3
/-- e.bit_length() of an int -/
def qBits (q : QD) : QD := fun ρ P => q ρ fun d ρ' => ∃ i, d = .int i ∧ P (.int (Builtin.Int.intBits i)) ρ'
theorem pd_bits {q : QD} {apos : Pos} (ho : PD J X e q) (hbase : attributeBase e "bit_length" X.env (eval e X.env) = eval e X.env := by rfl) (hline : (apos.endLine == pos.line) = true := by rfl) : PD J X (.Call (.Attribute e "bit_length" apos) [] [] pos) (qBits q) :=
  pe_mono (pe_bits ho hbase hline) fun σ H Q ⟨n, H0, ρ, P, R, w, k⟩ => ⟨n, H0, ρ, _, R, w, fun v H1 H01 d ρ1 R1 S1 hd ⟨i, ei, hp⟩ => by
    subst ei
    exact ⟨i, dp_int hd, k _ H1 H01 _ ρ1 R1 S1 (.int _) hp⟩⟩
end
theorem kw_of {K : PySem.W.Frag} {x : Str} {st : Stmt} {f : Addr} {fd : FuncData} {ps ks : List Str} {idx : List Nat} (F : FnP K x st f fd)
    (h : ∀ (kV doc pm : Value) (an : Option Addr) (cdv ct : Value) (ws : List Value), ws.length = ks.length → bindArgs (PySem.W.fnOf x x (defArgs st) (defBody st) (defScope st) .none kV doc pm an cdv ct) ⟨[], ks.zip ws⟩ = pure (ps.zip (idx.map fun i => ws.getD i .none))) : KwOk K fd ps ks idx := by
  obtain ⟨oc, od, dV, kV, doc, pm, an, cdv, ct, osl, rfl, lk, hcd, hD, hK⟩ := F.ex
  rcases hD with ⟨_, rfl⟩ | ⟨e, _⟩
  · exact fun s ws _ hl => .of_eq (h kV doc pm an cdv ct ws hl)
  · exact absurd rfl e
/-- a def's promise from its body; by its place in the text -/
theorem defD_ok {P : Program} {w : World} {K : PySem.W.Frag} {mg : Str → Option Value} {base : Heap} {J : Jr} {x : Str} {st : Stmt} {f : Addr} {fd : FuncData} {N ps : List Str} {k : Nat} {pp : PPr} {qs : QS} (hj : J.jx = none) (F : FnP K x st f fd) (hx : mg x = some (.ref f)) (S : FnScope N ps (defScope st)) (hB : Binds K fd ps [])
    (hl : ∀ gs R, pp gs R → gs.length = ps.length) (hb : ∀ (cdv : Value) (A : Around) (outer : List Env) (s : Shared) (H : Hp) (E : XK), Room k (A.deeper (envOfC x (defScope st) s.heap.objs.size f cdv)) →
      PSsd J (cxOf CX0 P w K mg base N x (defScope st) f cdv A outer s H E).nox (defBody st) qs)
    (spec : ∀ gs R, pp gs R → qs ⟨fun _ => R (.da .none), fun r _ => R r, fun _ => False, fun _ => False⟩ (startD N.length gs)) : CalD P w K mg base J (k + 1) x st ps pp := by
  refine ⟨hj, f, fd, ?_, hx, F, hB⟩
  refine FunD.ok F S (fun vs H Q E ⟨H0, as, jv, gs, _, _, _, h, R, h2, _⟩ => by rw [pair_len h]; exact hl gs R h2) (fun cdv A outer s H vs Q E hr z => ?_)
  obtain ⟨t, h1, h2⟩ := def_body S hl (hb cdv A outer s H E hr) spec z
  exact ⟨t, h1.nox, h2⟩
/-- a promise that is never asked for -/
theorem CalD.none {P : Program} {w : World} {K : PySem.W.Frag} {mg : Str → Option Value} {base : Heap} {J : Jr} {x : Str} {st : Stmt} {f : Addr} {fd : FuncData} {N ps : List Str} {k : Nat} {pp : PPr} (hj : J.jx = Option.none) (F : FnP K x st f fd) (hx : mg x = some (.ref f)) (S : FnScope N ps (defScope st)) (hB : Binds K fd ps [])
    (hn : ∀ gs R, pp gs R → False) : CalD P w K mg base J k x st ps pp := by
  have no : ∀ vs H Q E, spD K J pp vs H Q E → False := fun vs H Q E ⟨_, _, _, gs, _, _, _, _, R, h, _⟩ => hn gs R h
  exact ⟨hj, f, fd, ⟨fun vs H Q E z => (no vs H Q E z).elim, fun A o s H args us vs Q E _ _ _ _ z => (no vs H Q E z).elim⟩, hx, F, hB⟩
end Zd

set_option Elab.async false
set_option linter.all false
set_option maxRecDepth 100000
set_option maxHeartbeats 4000000
namespace Zd
open PySem PySem.Spec PyProof.Rows L2
/-! ### the open drawing thing: its parts -/
/-- what stands at a part's place -/
def NdIs (K : PySem.W.Frag) (H : Hp) (bs : List Addr) (x : V) : Nd → Prop
  | .d d => Dq K H x d ∧ isT d = true
  | .l ds => ∃ b ys, x = .ref b ∧ b ∈ bs ∧ H b = some (.lst ys) ∧ DqAll K H ys ds ∧ isTs ds = true
  | .m ks ds => ∃ b ys, x = .ref b ∧ b ∈ bs ∧ H b = some (.dK (ks.zip ys)) ∧ ks.length = ys.length ∧ DqAll K H ys ds ∧ isTs ds = true
theorem NdIs.more {K : PySem.W.Frag} {H : Hp} {bs : List Addr} {b0 : Addr} {x : V} : ∀ {e : Nd}, NdIs K H bs x e → NdIs K H (b0 :: bs) x e
  | .d _, h => h
  | .l _, ⟨b, ys, h1, h2, h3⟩ => ⟨b, ys, h1, List.mem_cons_of_mem _ h2, h3⟩
  | .m _ _, ⟨b, ys, h1, h2, h3⟩ => ⟨b, ys, h1, List.mem_cons_of_mem _ h2, h3⟩
theorem NdAll.get {K : PySem.W.Frag} {H : Hp} : ∀ {p : Nat} {xs : List V} {es : List Nd} {bs : List Addr} {e : Nd}, NdAll K H xs es bs → es[p]? = some e → ∃ x, xs[p]? = some x ∧ NdIs K H bs x e
  | 0, _, _, _, _, .dat h ht t, z => by cases z; exact ⟨_, rfl, h, ht⟩
  | 0, _, _, _, _, .lst h hd ht hn t, z => by cases z; exact ⟨_, rfl, _, _, rfl, List.mem_cons_self .., h, hd, ht⟩
  | 0, _, _, _, _, .dic h hl hd ht hn t, z => by cases z; exact ⟨_, rfl, _, _, rfl, List.mem_cons_self .., h, hl, hd, ht⟩
  | p + 1, _, _, _, _, .dat h ht t, z => NdAll.get (p := p) t z
  | p + 1, _, _, _, _, .lst h hd ht hn t, z => by
    obtain ⟨x, h1, h2⟩ := NdAll.get (p := p) t z
    exact ⟨x, h1, h2.more⟩
  | p + 1, _, _, _, _, .dic h hl hd ht hn t, z => by
    obtain ⟨x, h1, h2⟩ := NdAll.get (p := p) t z
    exact ⟨x, h1, h2.more⟩
theorem NdAll.len {K : PySem.W.Frag} {H : Hp} : ∀ {xs : List V} {es : List Nd} {bs : List Addr}, NdAll K H xs es bs → xs.length = es.length
  | _, _, _, .nil => rfl
  | _, _, _, .dat _ _ t => by rw [List.length_cons, List.length_cons, t.len]
  | _, _, _, .lst _ _ _ _ t => by rw [List.length_cons, List.length_cons, t.len]
  | _, _, _, .dic _ _ _ _ _ t => by rw [List.length_cons, List.length_cons, t.len]
/-- a datum is stored -/
theorem NdAll.put_d {K : PySem.W.Frag} {H : Hp} {x : V} {d : D} (hx : Dq K H x d) (ht : isT d = true) : ∀ {p : Nat} {xs : List V} {es : List Nd} {bs : List Addr} {d0 : D}, NdAll K H xs es bs → es[p]? = some (.d d0) → NdAll K H (xs.set p x) (es.set p (.d d)) bs
  | 0, _, _, _, _, .dat h _ t, _ => .dat hx ht t
  | 0, _, _, _, _, .lst .., z => by cases z
  | 0, _, _, _, _, .dic .., z => by cases z
  | p + 1, _, _, _, _, .dat h ht' t, z => .dat h ht' (NdAll.put_d hx ht (p := p) t z)
  | p + 1, _, _, _, _, .lst h hd ht' hn t, z => .lst h hd ht' hn (NdAll.put_d hx ht (p := p) t z)
  | p + 1, _, _, _, _, .dic h hl hd ht' hn t, z => .dic h hl hd ht' hn (NdAll.put_d hx ht (p := p) t z)
/-- a list within becomes another one -/
theorem NdAll.put_l {K : PySem.W.Frag} {H : Hp} {b : Addr} {ys : List V} {ds : List D} (hd' : DqAll K (upd H b (.lst ys)) ys ds) (ht : isTs ds = true) : ∀ {p : Nat} {xs : List V} {es : List Nd} {bs : List Addr} {ds0 : List D}, NdAll K H xs es bs → es[p]? = some (.l ds0) → xs[p]? = some (.ref b) →
    NdAll K (upd H b (.lst ys)) xs (es.set p (.l ds)) bs
  | 0, _, _, _, _, .dat .., z, _ => by cases z
  | 0, _, _, _, _, .lst h hd ht' hn t, z, e => by
    cases e
    exact .lst upd_same hd' ht hn (t.loc (keep_upd h rfl) fun c hc => upd_ne (fun q => hn (by rw [← q]; exact hc)))
  | 0, _, _, _, _, .dic .., z, _ => by cases z
  | p + 1, _, _, _, _, .dat h ht' t, z, e => by
    obtain ⟨x, h1, b1, ys1, h2, h3, h4, _⟩ := t.get (p := p) z
    have e' := h1.symm.trans ((List.getElem?_cons_succ).symm.trans e)
    cases e'
    cases h2
    exact .dat (dq_keep (keep_upd h4 rfl) _ _ ht' h) ht' (NdAll.put_l hd' ht (p := p) t z e)
  | p + 1, _, _, _, _, .lst h hd ht' hn t, z, e => by
    obtain ⟨x, h1, b1, ys1, h2, h3, h4, _⟩ := t.get (p := p) z
    have e' := h1.symm.trans ((List.getElem?_cons_succ).symm.trans e)
    cases e'
    cases h2
    exact .lst (by rw [upd_ne (fun q => hn (by rw [q]; exact h3))]; exact h) (dqa_keep (keep_upd h4 rfl) _ _ ht' hd) ht' hn (NdAll.put_l hd' ht (p := p) t z e)
  | p + 1, _, _, _, _, .dic h hl hd ht' hn t, z, e => by
    obtain ⟨x, h1, b1, ys1, h2, h3, h4, _⟩ := t.get (p := p) z
    have e' := h1.symm.trans ((List.getElem?_cons_succ).symm.trans e)
    cases e'
    cases h2
    exact .dic (by rw [upd_ne (fun q => hn (by rw [q]; exact h3))]; exact h) hl (dqa_keep (keep_upd h4 rfl) _ _ ht' hd) ht' hn (NdAll.put_l hd' ht (p := p) t z e)
/-- whatever it holds, it is the drawing thing -/
def JOpen (K : PySem.W.Frag) (J : Jr) : Prop := ∀ as v H c, JAt K H as v c → J.is as v H
section
variable {K : PySem.W.Frag} {J : Jr} {n : En} {σ : L2.St} {H H0 : Hp} {ρ : List Sl}
theorem Rp.jput (R : Rp K J n σ H H0 ρ) {i : Nat} {c c' : Jc} {b : Addr} {o : HO} (e : ρ[i]? = some (.jo c)) (hb : b ∈ n.as) (jo : JOpen K J) (h : JAt K (upd H b o) n.as n.jv c') : Rp K J n σ (upd H b o) H0 (ρ.set i (.jo c')) where
  len := by rw [List.length_set]; exact R.len
  sub := fun a u z => by
    have nb : a ≠ b := fun q => by rw [q, R.jh0 hb] at z; cases z
    rw [upd_ne nb]
    exact R.sub a u z
  sl := fun j s z => by
    rw [get_set] at z
    have q := R.sl i _ e
    by_cases ij : i = j
    · rw [if_pos ij] at z
      split at z
      · cases z
        subst ij
        exact ⟨q.1, q.2.1, h⟩
      · cases z
    · rw [if_neg ij] at z
      have w := R.sl j s z
      cases s with
      | un => trivial
      | da d => exact w
      | ow ds =>
        obtain ⟨a, xs, w1, w2, w3, w4, w5⟩ := w
        exact ⟨a, xs, w1, by rw [upd_ne (fun t => (R.jdom b hb).2 (by rw [← t]; exact w5))]; exact w2, w3, w4, w5⟩
      | ja => exact w
      | jo c2 =>
        have := (R.jx i c e).symm.trans (R.jx j c2 z)
        cases this
        exact absurd rfl ij
  sep := fun j k ds es hn e1 e2 => by
    have un : ∀ {m : Nat} {es : List D}, (ρ.set i (.jo c'))[m]? = some (.ow es) → ρ[m]? = some (.ow es) := fun {m es} z => by
      rw [get_set] at z
      by_cases q : i = m
      · rw [if_pos q] at z
        split at z <;> cases z
      · rw [if_neg q] at z
        exact z
    exact R.sep j k ds es hn (un e1) (un e2)
  fr := fun a u ha z => by
    rw [upd_ne (fun q => ha (by rw [q]; exact hb))]
    exact R.fr a u ha z
  base := R.base
  fresh := R.fresh
  jar := fun _ => jo _ _ _ _ h
  jdom := R.jdom
  jx := fun j c2 z => by
    rw [get_set] at z
    by_cases q : i = j
    · subst q
      exact R.jx i c e
    · rw [if_neg q] at z
      exact R.jx j c2 z
/-- a list's part k of the open thing at slot i -/
theorem Rp.jpart (R : Rp K J n σ H H0 ρ) {i k : Nat} {c : Jc} {e : Nd} (h : ρ[i]? = some (.jo c)) (ht : c.top = none) (hk : c.es[k]? = some e) :
    ∃ j xs bs x, σ[i]? = some (some (.ref j)) ∧ n.as = j :: bs ∧ n.jv = .ref j ∧ H j = some (.lst xs) ∧ NdAll K H xs c.es bs ∧ j ∉ bs ∧ xs[k]? = some x ∧ NdIs K H bs x e := by
  obtain ⟨h1, h2, j, xs, bs, e1, e2, e3, e4, e5, e6⟩ := R.sl i _ h
  rw [ht] at e3
  obtain ⟨x, g1, g2⟩ := e4.get hk
  exact ⟨j, xs, bs, x, by rw [h1, e2], e1, e2, e3, e4, e5, g1, g2⟩
end
section
variable {X : Cx} {J : Jr} {e a b c : Expr} {es : List Expr} {pos : Pos}
/-- part k of the list in slot i -/
def tIn (i k : Nat) : TE := fun σ H Q => ∃ a xs v, σ[i]? = some (some (.ref a)) ∧ H a = some (.lst xs) ∧ xs[k]? = some v ∧ Q v H
theorem pe_in {o : Expr} {i k : Nat} {z : Int} {j : Nat} {p1 : Pos} (ho : PE X o (tVar i)) (hz : z = (k : Int)) : PE X (.Subscript o (.Constant (.int z) j p1) pos) (tIn i k) :=
  pe_mono (pe_ix ix_seq ho pe_int (fun _ _ => rfl)) fun σ H Q ⟨a, xs, v, h1, h2, h3, q⟩ => ⟨.ref a, h1, .inl ⟨a, xs, z, v, rfl, rfl, SqL.of h2, by
    subst hz
    have l : k < xs.length := (List.getElem?_eq_some_iff.mp h3).1
    unfold atI ixN
    rw [if_pos (by omega), if_pos (by omega)]
    exact h3, q⟩⟩
/-- a datum is read -/
def qJd (i k : Nat) : QR := fun ρ P => match ρ[i]? with
  | some (.jo c) => (match c.es[k]? with
    | some (.d d) => c.top = none ∧ flatD d = true ∧ P (.da d) ρ
    | _ => False)
  | _ => False
theorem pr_jd {o : Expr} {i k : Nat} {z : Int} {j : Nat} {p1 : Pos} (ho : PE X o (tVar i)) (hz : z = (k : Int)) : PR J X (.Subscript o (.Constant (.int z) j p1) pos) (qJd i k) := pe_mono (pe_in ho hz) fun σ H Q ⟨n, H0, ρ, P, R, w, kk⟩ => by
  unfold qJd at w
  cases e : ρ[i]? with
  | none => rw [e] at w; exact w.elim
  | some s =>
    rw [e] at w
    cases s with
    | jo c =>
      have w : (match c.es[k]? with
        | some (.d d) => c.top = none ∧ flatD d = true ∧ P (.da d) ρ
        | _ => False) := w
      cases e2 : c.es[k]? with
      | none => rw [e2] at w; exact w.elim
      | some f =>
        rw [e2] at w
        cases f with
        | d d =>
          obtain ⟨ht, hf, hp⟩ := w
          obtain ⟨j, xs, bs, x, h1, _, _, h4, _, _, h7, h8, _⟩ := R.jpart e ht e2
          exact ⟨j, xs, x, h1, h4, h7, kk x H H0 (.da d) ρ R (.refl _) (flat_any h8 hf) hp⟩
        | _ => exact w.elim
    | _ => exact w.elim
/-- the part of a slot's open thing -/
def jPart (ρ : List Sl) (i k : Nat) (f : Jc → Nd → Prop) : Prop := match ρ[i]? with
  | some (.jo c) => (match c.es[k]? with
    | some e => c.top = none ∧ f c e
    | none => False)
  | _ => False
theorem jPart.of {ρ : List Sl} {i k : Nat} {f : Jc → Nd → Prop} (h : jPart ρ i k f) : ∃ c e, ρ[i]? = some (.jo c) ∧ c.es[k]? = some e ∧ c.top = none ∧ f c e := by
  unfold jPart at h
  cases e : ρ[i]? with
  | none => rw [e] at h; exact h.elim
  | some s =>
    rw [e] at h
    cases s with
    | jo c =>
      have h : (match c.es[k]? with
        | some e => c.top = none ∧ f c e
        | none => False) := h
      cases e2 : c.es[k]? with
      | none => rw [e2] at h; exact h.elim
      | some g => rw [e2] at h; exact ⟨c, g, rfl, e2, h.1, h.2⟩
    | _ => exact h.elim
def Jc.put (c : Jc) (k : Nat) (e : Nd) : Jc := { c with es := c.es.set k e }
/-- jar[k] = e -/
def qJput (i k : Nat) (qe : QD) : QS := fun E ρ => qe ρ fun d ρ1 => jPart ρ1 i k fun c e => (∃ d0, e = .d d0) ∧ isT d = true ∧ E.nx (ρ1.set i (.jo (c.put k (.d d))))
theorem psd_jput {i k : Nat} {qe : QD} {o : Expr} {z : Int} {j : Nat} {p1 p2 : Pos} (jo : JOpen X.K J) (ho : PE X o (tVar i)) (hz' : z = (k : Int)) (he : PD J X e qe)
    (hs : swapsWithSole [.Subscript o (.Constant (.int z) j p1) p2] e pos.line X.env = pure false := by rfl) (hw : swappedStores [.Subscript o (.Constant (.int z) j p1) p2] e X.env = pure none := by rfl)
    (h1 : (assignEach [.Subscript o (.Constant (.int z) j p1) p2] X.env).map (·.2) = [assign (.Subscript o (.Constant (.int z) j p1) p2) X.env] := by rfl)
    (hz : ∀ u, assign (.Subscript o (.Constant (.int z) j p1) p2) X.env u = (do
      let ov ← holding [u] (eval o X.env)
      let iv ← holding [u, ov] (eval (.Constant (.int z) j p1) X.env)
      standAt p2
      holding [u, ov, iv] (setItem ov iv u)
      release [u, ov, iv] []) := by intro _; rfl) : PSd J X (.Assign [.Subscript o (.Constant (.int z) j p1) p2] e pos) (qJput i k qe) :=
  ps_mono (ps_asg he (pg_sub ho pe_int set_list hz) hs hw h1) fun D σ H ⟨n, H0, ρ, E, R, w, kk, _⟩ => ⟨n, H0, ρ, _, R, w, fun v H1 H01 d ρ1 R1 S1 hd w1 => by
    obtain ⟨c, e0, g1, g2, g3, ⟨d0, g4⟩, g5, g6⟩ := w1.of
    subst g4
    obtain ⟨j, xs, bs, x, q1, q2, q3, q4, q5, q6, q7, _⟩ := R1.jpart g1 g3 g2
    have l : k < xs.length := (List.getElem?_eq_some_iff.mp q7).1
    refine ⟨.ref j, q1, j, xs, z, k, rfl, rfl, q4, ?_, ?_⟩
    · subst hz'
      unfold ixN
      rw [if_pos (by omega), if_pos (by omega)]
      rfl
    · have hj : j ∈ n.as := by rw [q2]; exact List.mem_cons_self ..
      refine kk σ _ H01 _ (R1.jput (c' := c.put k (.d d)) g1 hj jo ?_) S1 g6
      refine ⟨j, xs.set k v, bs, q2, q3, ?_, ?_, q6, fun ks hks => ?_⟩
      · show upd H1 j (.lst (xs.set k v)) j = some (topHO c.top (xs.set k v))
        rw [upd_same, g3]
        rfl
      · have t := q5.loc (H' := upd H1 j (.lst (xs.set k v))) (keep_upd q4 rfl) (fun b hb => upd_ne (fun q => q6 (by rw [← q]; exact hb)))
        exact t.put_d (dq_keep (keep_upd q4 rfl) _ _ g5 (dp_mono R1.sub _ _ hd)) g5 g2
      · have : (none : Option (List Str)) = some ks := g3.symm.trans hks
        cases this⟩
theorem NdAll.same {K : PySem.W.Frag} {H H1 : Hp} : ∀ {k : Nat} {xs ys : List V} {es : List Nd} {bs : List Addr} {ds : List D}, NdAll K H xs es bs → NdAll K H1 ys es bs → es[k]? = some (.l ds) → xs[k]? = ys[k]?
  | 0, _, _, _, _, _, .dat .., .dat .., z => by cases z
  | 0, _, _, _, _, _, .lst .., .lst .., z => rfl
  | 0, _, _, _, _, _, .dic .., .dic .., z => rfl
  | k + 1, _, _, _, _, _, .dat _ _ t, .dat _ _ u, z => NdAll.same (k := k) t u z
  | k + 1, _, _, _, _, _, .lst _ _ _ _ t, .lst _ _ _ _ u, z => NdAll.same (k := k) t u z
  | k + 1, _, _, _, _, _, .dic _ _ _ _ _ t, .dic _ _ _ _ _ u, z => NdAll.same (k := k) t u z
theorem Rp.jlist {K : PySem.W.Frag} {n : En} {σ : L2.St} {H H0 : Hp} {ρ : List Sl} (R : Rp K J n σ H H0 ρ) (jo : JOpen K J) {i k : Nat} {c : Jc} {ds ds' : List D} (h : ρ[i]? = some (.jo c)) (ht : c.top = none) (hk : c.es[k]? = some (.l ds)) :
    ∃ j xs b ys, σ[i]? = some (some (.ref j)) ∧ H j = some (.lst xs) ∧ xs[k]? = some (.ref b) ∧ H b = some (.lst ys) ∧ DqAll K H ys ds ∧ isTs ds = true ∧
      (∀ (H' H0' : Hp) (ρ' : List Sl), Rp K J n σ H' H0' ρ' → ρ'[i]? = some (.jo c) → ∀ j' xs', σ[i]? = some (some (.ref j')) → H' j' = some (.lst xs') → xs'[k]? = some (.ref b)) ∧
      ∀ ys', DqAll K H ys' ds' → isTs ds' = true → Rp K J n σ (upd H b (.lst ys')) H0 (ρ.set i (.jo (c.put k (.l ds')))) := by
  obtain ⟨j, xs, bs, x, q1, q2, q3, q4, q5, q6, q7, b, ys, rfl, hb, g1, g2, g3⟩ := R.jpart h ht hk
  refine ⟨j, xs, b, ys, q1, q4, q7, g1, g2, g3, fun H' H0' ρ' R' e' j1 xs1 s1 s2 => ?_, fun ys' hy ht' => ?_⟩
  · obtain ⟨j', xs', bs', x', p1, p2, p3, p4, p5, p6, p7, b', ys', rfl, hb', f1, f2, f3⟩ := R'.jpart e' ht hk
    rw [q2] at p2
    cases p2
    rw [s1] at p1
    cases p1
    rw [s2] at p4
    cases p4
    exact (q5.same p5 hk).symm.trans q7
  · have ba : b ∈ n.as := by rw [q2]; exact List.mem_cons_of_mem _ hb
    refine R.jput h ba jo ⟨j, xs, bs, q2, q3, ?_, q5.put_l (dqa_keep (keep_upd g1 rfl) _ _ ht' hy) ht' hk q7, q6, fun ks hks => ?_⟩
    · show upd H b (.lst ys') j = some (topHO c.top xs)
      rw [upd_ne (fun q => q6 (by rw [q]; exact hb)), ht]
      exact q4
    · have : (none : Option (List Str)) = some ks := ht.symm.trans hks
      cases this
/-- len(jar[k]) -/
def qJlen (i k : Nat) : QR := fun ρ P => jPart ρ i k fun _ e => ∃ ds, e = .l ds ∧ P (.da (.int ds.length)) ρ
theorem pr_jlen {o : Expr} {i k : Nat} {z : Int} {j : Nat} {p1 p2 p3 : Pos} {x : Str} (ho : PE X o (tVar i)) (hz : z = (k : Int)) (hg : Gl X x) (hm : X.mg x = none) (hv : bootBuiltins x = some (.builtin "len")) (hn : x ≠ "__name__" := by decide) (hdb : (x == ("__debug__" : Str)) = false := by decide)
    (he : starEach [.Subscript o (.Constant (.int z) j p1) p2] X.env = (false, eval (.Subscript o (.Constant (.int z) j p1) p2) X.env) :: starEach [] X.env := by rfl) (hpl : (backTo pos (starEach [] X.env)).any (·.1) = false := by rfl) :
    PR J X (.Call (.Name x p3) [.Subscript o (.Constant (.int z) j p1) p2] [] pos) (qJlen i k) :=
  pe_mono (pe_callB call_len hg hm hv (pa_cons (pe_in ho hz) pa_nil he) hn hdb he hpl) fun σ H Q ⟨n, H0, ρ, P, R, w, kk⟩ => by
    obtain ⟨c, e0, g1, g2, g3, ds, rfl, hp⟩ := w.of
    obtain ⟨j, xs, bs, x, q1, q2, q3, q4, q5, q6, q7, b, ys, rfl, hb, f1, f2, f3⟩ := R.jpart g1 g3 g2
    exact ⟨j, xs, .ref b, q1, q4, q7, .ref b, ds.length, rfl, .inl ⟨ys, SqL.of f1, (dpa_len f2).symm⟩, kk _ H H0 (.da (.int ds.length)) ρ R (.refl _) (Dq.int _) hp⟩
/-- jar[k].append(e) -/
def qJapp (i k : Nat) (qe : QD) : QR := fun ρ P => jPart ρ i k fun c e => ∃ ds, e = .l ds ∧ qe ρ fun d ρ1 => ρ1[i]? = some (.jo c) ∧ isT d = true ∧ ds.length < sizeLine ∧ P (.da .none) (ρ1.set i (.jo (c.put k (.l (ds ++ [d])))))
theorem isTs_app : ∀ {ds es : List D}, isTs ds = true → isTs es = true → isTs (ds ++ es) = true
  | [], _, _, h => h
  | d :: ds, es, h, h' => by
    have w : (isT d && isTs ds) = true := h
    obtain ⟨w1, w2⟩ := Bool.and_eq_true_iff.mp w
    exact Bool.and_eq_true_iff.mpr ⟨w1, isTs_app w2 h'⟩
theorem isTs_one {d : D} (h : isT d = true) : isTs [d] = true := Bool.and_eq_true_iff.mpr ⟨h, rfl⟩
theorem isTs_take : ∀ (m : Nat) {ds : List D}, isTs ds = true → isTs (ds.take m) = true
  | 0, _, _ => rfl
  | _ + 1, [], _ => rfl
  | m + 1, d :: ds, h => by
    have w : (isT d && isTs ds) = true := h
    obtain ⟨w1, w2⟩ := Bool.and_eq_true_iff.mp w
    exact Bool.and_eq_true_iff.mpr ⟨w1, isTs_take m w2⟩
theorem isTs_set : ∀ (m : Nat) {ds : List D} {d : D}, isT d = true → isTs ds = true → isTs (ds.set m d) = true
  | _, [], _, _, _ => rfl
  | 0, e :: ds, d, h', h => by
    have w : (isT e && isTs ds) = true := h
    exact Bool.and_eq_true_iff.mpr ⟨h', (Bool.and_eq_true_iff.mp w).2⟩
  | m + 1, e :: ds, d, h', h => by
    have w : (isT e && isTs ds) = true := h
    exact Bool.and_eq_true_iff.mpr ⟨(Bool.and_eq_true_iff.mp w).1, isTs_set m h' (Bool.and_eq_true_iff.mp w).2⟩
theorem pr_japp {o : Expr} {i k : Nat} {z : Int} {j : Nat} {p1 p2 apos : Pos} {qa : QD} (jo : JOpen X.K J) (ho : PE X o (tVar i)) (hz : z = (k : Int)) (ha : PD J X e qa)
    (hbase : attributeBase (.Subscript o (.Constant (.int z) j p1) p2) "append" X.env (eval (.Subscript o (.Constant (.int z) j p1) p2) X.env) = eval (.Subscript o (.Constant (.int z) j p1) p2) X.env := by rfl)
    (hfew : ((backTo pos (starEach [e] X.env)).all (fun x => !x.1) && (backToKw pos (keywordEach [] X.env)).all (fun x => x.1.isSome) && decide ([e].length + ([] : List Keyword).length + (if ([] : List Keyword).isEmpty then 0 else 1) < 30)) = true := by rfl)
    (hline : (apos.endLine == pos.line) = true := by rfl) (hs : starEach [e] X.env = (false, eval e X.env) :: starEach [] X.env := by rfl) (hplain : (backTo pos (starEach [] X.env)).any (·.1) = false := by rfl) :
    PR J X (.Call (.Attribute (.Subscript o (.Constant (.int z) j p1) p2) "append" apos) [e] [] pos) (qJapp i k qa) :=
  pe_mono (pe_bm PySem.F.plainAttrs_list PySem.F.slot_list_append PySem.F.type_list_append mt_append (pe_in ho hz) (pa_cons ha pa_nil hs) hbase hfew hline hs hplain) fun σ H Q ⟨n, H0, ρ, P, R, w, kk⟩ => by
    obtain ⟨c, e0, g1, g2, g3, ds, rfl, w⟩ := w.of
    obtain ⟨j, xs, b, ys, q1, q2, q3, q4, q5, q6, q7, _⟩ := R.jlist jo (ds' := ds) g1 g3 g2
    refine ⟨j, xs, .ref b, q1, q2, q3, .inl ⟨rfl, ys, SqL.of q4⟩, n, H0, ρ, _, R, w, fun v H1 H01 d ρ1 R1 S1 hd ⟨u1, u2, u3, u4⟩ => ?_⟩
    obtain ⟨j', xs', b', ys', r1, r2, r3, r4, r5, r6, _, r8⟩ := R1.jlist jo (ds' := ds ++ [d]) u1 g3 g2
    have eb : b = b' := by
      have := (q7 H1 H01 ρ1 R1 u1 j' xs' r1 r2).symm.trans r3
      cases this
      rfl
    subst eb
    exact ⟨b, ys', v, rfl, rfl, r4, by rw [dpa_len r5]; exact u3, kk _ _ H01 (.da .none) _ (r8 (ys' ++ [v]) (dpa_app r5 (dpa_one (dp_mono R1.sub _ _ hd))) (isTs_app q6 (isTs_one u2))) S1 .non u4⟩
/-- jar[k].pop() -/
def qJpop (i k : Nat) : QR := fun ρ P => jPart ρ i k fun c e => ∃ ds d, e = .l ds ∧ ds.getLast? = some d ∧ flatD d = true ∧ P (.da d) (ρ.set i (.jo (c.put k (.l ds.dropLast))))
theorem pr_jpop {o : Expr} {i k : Nat} {z : Int} {j : Nat} {p1 p2 apos : Pos} (jo : JOpen X.K J) (ho : PE X o (tVar i)) (hz : z = (k : Int))
    (hbase : attributeBase (.Subscript o (.Constant (.int z) j p1) p2) "pop" X.env (eval (.Subscript o (.Constant (.int z) j p1) p2) X.env) = eval (.Subscript o (.Constant (.int z) j p1) p2) X.env := by rfl) (hline : (apos.endLine == pos.line) = true := by rfl) :
    PR J X (.Call (.Attribute (.Subscript o (.Constant (.int z) j p1) p2) "pop" apos) [] [] pos) (qJpop i k) :=
  pe_mono (pe_bm0 PySem.F.plainAttrs_list PySem.F.slot_list_pop PySem.F.type_list_pop mt_pop (pe_in ho hz) hbase hline) fun σ H Q ⟨n, H0, ρ, P, R, w, kk⟩ => by
    obtain ⟨c, e0, g1, g2, g3, ds, d, rfl, hd, hf, hp⟩ := w.of
    obtain ⟨j, xs, b, ys, q1, q2, q3, q4, q5, q6, _, q8⟩ := R.jlist jo (ds' := ds.dropLast) g1 g3 g2
    rw [List.getLast?_eq_getElem?, ← dpa_len q5] at hd
    obtain ⟨v, hv, hdv⟩ := dpa_get' q5 hd
    refine ⟨j, xs, .ref b, q1, q2, q3, .inl ⟨rfl, ys, SqL.of q4⟩, b, ys, v, rfl, rfl, q4, hv, kk v _ H0 (.da d) _ (q8 ys.dropLast (dpa_dropLast q5) ?_) (.refl _) (flat_any hdv hf) hp⟩
    rw [List.dropLast_eq_take]
    exact isTs_take _ q6
/-- jar[k][e] -/
def qJix (i k : Nat) (qe : QD) : QR := fun ρ P => jPart ρ i k fun c e => ∃ ds, e = .l ds ∧ qe ρ fun d ρ1 => ρ1[i]? = some (.jo c) ∧ ∃ z x, d = .int z ∧ atI ds z = some x ∧ flatD x = true ∧ P (.da x) ρ1
theorem pr_jix {o : Expr} {i k : Nat} {z : Int} {j : Nat} {p1 p2 : Pos} {qb : QD} (jo : JOpen X.K J) (ho : PE X o (tVar i)) (hz : z = (k : Int)) (hb : PV J X b qb) (hs : PlainIx b) : PR J X (.Subscript (.Subscript o (.Constant (.int z) j p1) p2) b pos) (qJix i k qb) :=
  pe_mono (pe_ix ix_seq (pe_in ho hz) hb hs) fun σ H Q ⟨n, H0, ρ, P, R, w, kk⟩ => by
    obtain ⟨c, e0, g1, g2, g3, ds, rfl, w⟩ := w.of
    obtain ⟨j, xs, b, ys, q1, q2, q3, q4, q5, q6, q7, _⟩ := R.jlist jo (ds' := ds) g1 g3 g2
    refine ⟨j, xs, .ref b, q1, q2, q3, n, H0, ρ, _, R, w, fun v H1 H01 d ρ1 R1 S1 hd ⟨u1, z, x, u2, u3, u4, u5⟩ => ?_⟩
    obtain ⟨j', xs', b', ys', r1, r2, r3, r4, r5, r6, _, _⟩ := R1.jlist jo (ds' := ds) u1 g3 g2
    have eb : b = b' := by
      have := (q7 H1 H01 ρ1 R1 u1 j' xs' r1 r2).symm.trans r3
      cases this
      rfl
    subst eb
    subst u2
    obtain ⟨y, y1, y2⟩ := atI_v r5 u3
    exact .inl ⟨b, ys', z, y, rfl, hd.int, SqL.of r4, y1, kk y H1 H01 (.da x) ρ1 R1 S1 (flat_any y2 u4) u5⟩
/-- jar[k][e1] = e -/
def qJput2 (i k : Nat) (qe qi : QD) : QS := fun E ρ => qe ρ fun d ρ1 => jPart ρ1 i k fun c e => ∃ ds, e = .l ds ∧ qi ρ1 fun kd ρ2 => ρ2[i]? = some (.jo c) ∧ ∃ z jj, kd = .int z ∧ ixN ds.length z = some jj ∧ isT d = true ∧ E.nx (ρ2.set i (.jo (c.put k (.l (ds.set jj d)))))
theorem psd_jput2 {i k : Nat} {qe qi : QD} {o ix : Expr} {z : Int} {j : Nat} {p0 p1 p2 : Pos} (jo : JOpen X.K J) (ho : PE X o (tVar i)) (hz' : z = (k : Int)) (hi : PD J X ix qi) (he : PD J X e qe)
    (hs : swapsWithSole [.Subscript (.Subscript o (.Constant (.int z) j p1) p0) ix p2] e pos.line X.env = pure false := by rfl) (hw : swappedStores [.Subscript (.Subscript o (.Constant (.int z) j p1) p0) ix p2] e X.env = pure none := by rfl)
    (h1 : (assignEach [.Subscript (.Subscript o (.Constant (.int z) j p1) p0) ix p2] X.env).map (·.2) = [assign (.Subscript (.Subscript o (.Constant (.int z) j p1) p0) ix p2) X.env] := by rfl)
    (hz : ∀ u, assign (.Subscript (.Subscript o (.Constant (.int z) j p1) p0) ix p2) X.env u = (do
      let ov ← holding [u] (eval (.Subscript o (.Constant (.int z) j p1) p0) X.env)
      let iv ← holding [u, ov] (eval ix X.env)
      standAt p2
      holding [u, ov, iv] (setItem ov iv u)
      release [u, ov, iv] []) := by intro _; rfl) : PSd J X (.Assign [.Subscript (.Subscript o (.Constant (.int z) j p1) p0) ix p2] e pos) (qJput2 i k qe qi) :=
  ps_mono (ps_asg he (pg_sub (pe_in ho hz') hi set_list hz) hs hw h1) fun D σ H ⟨n, H0, ρ, E, R, w, kk, _⟩ => ⟨n, H0, ρ, _, R, w, fun v H1 H01 d ρ1 R1 S1 hd w1 => by
    obtain ⟨c, e0, g1, g2, g3, ds, rfl, w2⟩ := w1.of
    obtain ⟨j, xs, b, ys, q1, q2, q3, q4, q5, q6, q7, _⟩ := R1.jlist jo (ds' := ds) g1 g3 g2
    refine ⟨j, xs, .ref b, q1, q2, q3, n, H01, ρ1, _, R1, w2, fun u H2 H02 kd ρ2 R2 S2 hk ⟨u1, zz, jj, u2, u3, u4, u5⟩ => ?_⟩
    obtain ⟨j', xs', b', ys', r1, r2, r3, r4, r5, r6, _, r8⟩ := R2.jlist jo (ds' := ds.set jj d) u1 g3 g2
    have eb : b = b' := by
      have := (q7 H2 H02 ρ2 R2 u1 j' xs' r1 r2).symm.trans r3
      cases this
      rfl
    subst eb
    subst u2
    exact ⟨b, ys', zz, jj, rfl, dp_int hk, r4, by rw [dpa_len r5]; exact u3, kk σ _ H02 _ (r8 (ys'.set jj v) (dpa_set (dp_mono R2.sub _ _ (dp_mono S2 d v hd)) jj r5) (isTs_set jj u4 r6)) (S1.trans S2) u5⟩⟩
end
end Zd

set_option Elab.async false
set_option linter.all false
set_option maxRecDepth 100000
set_option maxHeartbeats 4000000
namespace Zd
open PySem PySem.Spec PyProof.Rows L2
/-! ### the drawing thing: opened by a def, made by a def, taken by the law -/
def jarN (K : PySem.W.Frag) (good : Jc → Prop) : Jr where
  is := fun as v H => ∃ c, good c ∧ JAt K H as v c
  loc := fun h k ⟨c, g, z⟩ => ⟨c, g, z.loc h k⟩
  dom := fun ⟨_, _, z⟩ => z.dom
/-- open, at slot i -/
def jarO (K : PySem.W.Frag) (i : Nat) : Jr where
  is := fun as v H => ∃ c, JAt K H as v c
  loc := fun h k ⟨c, z⟩ => ⟨c, z.loc h k⟩
  dom := fun ⟨_, z⟩ => z.dom
  jx := some i
theorem jarO_open (K : PySem.W.Frag) (i : Nat) : JOpen K (jarO K i) := fun _ _ _ c h => ⟨c, h⟩
/-- a def of the drawing thing, walked with the thing open -/
theorem openD_ok {P : Program} {w : World} {K : PySem.W.Frag} {mg : Str → Option Value} {base : Heap} {good : Jc → Prop} {x : Str} {st : Stmt} {f : Addr} {fd : FuncData} {N : List Str} {p0 : Str} {ps : List Str} {k : Nat} {pp : PPr} {qs : QS} (F : FnP K x st f fd) (hx : mg x = some (.ref f)) (S : FnScope N (p0 :: ps) (defScope st)) (hB : Binds K fd (p0 :: ps) [])
    (hl : ∀ gs R, pp gs R → ∃ ds : List D, gs = .j :: ds.map .d ∧ ds.length = ps.length)
    (hb : ∀ (cdv : Value) (A : Around) (outer : List Env) (s : Shared) (H : Hp) (E : XK), Room k (A.deeper (envOfC x (defScope st) s.heap.objs.size f cdv)) →
      PSsd (jarO K 0) (cxOf CX0 P w K mg base N x (defScope st) f cdv A outer s H E).nox (defBody st) qs)
    (spec : ∀ (ds : List D) R, pp (.j :: ds.map .d) R → ∀ c, good c → qs ⟨fun _ => False, fun r ρ => ∃ d c', r = .da d ∧ R (.da d) ∧ good c' ∧ ρ[0]? = some (.jo c'), fun _ => False, fun _ => False⟩ (.jo c :: (ds.map .da ++ List.replicate (N.length - ds.length - 1) .un))) : CalD P w K mg base (jarN K good) (k + 1) x st (p0 :: ps) pp := by
  refine ⟨rfl, f, fd, ?_, hx, F, hB⟩
  refine FunD.ok F S (fun vs H Q E ⟨H0, as, jv, gs, _, _, _, h, R, h2, _⟩ => by
    obtain ⟨ds, rfl, hds⟩ := hl gs R h2
    rw [pair_len h, List.length_cons, List.length_cons, List.length_map, hds]) (fun cdv A outer s H vs Q E hr z => ?_)
  obtain ⟨H0, as, jv, gs, h1, h2, h3, h4, R, h5, h6⟩ := z
  obtain ⟨ds, rfl, hds⟩ := hl gs R h5
  cases h4 with
  | cons hv h4 =>
    rename_i v vs
    obtain ⟨rfl, hne⟩ := hv
    obtain ⟨c, hgood, hat⟩ := h2 hne
    have hlen := pair_len h4
    rw [List.length_map] at hlen
    refine ⟨_, (hb cdv A outer s H E hr).nox, ⟨H, H0, as, v⟩, H0, _, _, ?_, spec ds R h5 c hgood, fun _ _ _ _ _ _ z => z.elim, ?_, fun _ _ _ _ _ _ z => z.elim, fun _ _ _ _ _ _ z => z.elim⟩
    · have tail : ∀ (i : Nat) (s : Sl), (ds.map Sl.da ++ List.replicate (N.length - ds.length - 1) Sl.un)[i]? = some s → s = .un ∨ ∃ d v, s = .da d ∧ vs[i]? = some v ∧ Dq K H0 v d := fun i s e => by
        by_cases q : i < ds.length
        · rw [List.getElem?_append_left (by rw [List.length_map]; exact q), List.getElem?_map] at e
          cases z : ds[i]? with
          | none => rw [z] at e; cases e
          | some d =>
            rw [z] at e
            cases e
            obtain ⟨v, w1, w2⟩ := pair_get h4 (show (ds.map Ag.d)[i]? = some (.d d) by rw [List.getElem?_map, z]; rfl)
            exact .inr ⟨d, v, rfl, w1, w2⟩
        · rw [List.getElem?_append_right (by rw [List.length_map]; omega), List.getElem?_replicate] at e
          split at e
          · cases e; exact .inl rfl
          · cases e
      refine ⟨?_, h1, fun i s e => ?_, fun i k ds1 es hik e1 e2 => ?_, fun a o _ e => e, .refl _, fun a e _ => e, fun _ => ⟨c, hat⟩, h3, fun i c1 e => ?_⟩
      · unfold L2.start
        simp only [List.length_append, List.length_map, List.length_replicate, List.length_cons, hlen]
        omega
      · cases i with
        | zero =>
          cases e
          exact ⟨rfl, hne, hat⟩
        | succ i =>
          rw [List.getElem?_cons_succ] at e
          rcases tail i s e with rfl | ⟨d, u, rfl, w1, w2⟩
          · trivial
          · refine ⟨u, ?_, w2⟩
            have li : i < vs.length := (List.getElem?_eq_some_iff.mp w1).1
            unfold L2.start
            rw [List.map_cons, List.cons_append, List.getElem?_cons_succ, List.getElem?_append_left (by rw [List.length_map]; exact li), List.getElem?_map, w1]
            rfl
      · exfalso
        cases i with
        | zero => cases e1
        | succ i =>
          rw [List.getElem?_cons_succ] at e1
          rcases tail i _ e1 with z | ⟨_, _, z, _⟩ <;> cases z
      · cases i with
        | zero => rfl
        | succ i =>
          exfalso
          rw [List.getElem?_cons_succ] at e
          rcases tail i _ e with z | ⟨_, _, z, _⟩ <;> cases z
    · intro v' σ' H' H0' r ρ' R' S' hr' ⟨d, c', er, hR, hg', e0⟩
      subst er
      obtain ⟨_, _, at'⟩ := R'.sl 0 _ e0
      exact h6 (.da d) v' H' hR ⟨H0', R'.sub, R'.fr, R'.base, R'.fresh, fun _ => ⟨c', hg', at'⟩, hr'⟩
/-! ### a display of parts -/
inductive NdsN (K : PySem.W.Frag) (n : En) (σ : L2.St) (ρ : List Sl) (H H0 : Hp) : List V → List Nd → List Addr → Prop
  | nil : NdsN K n σ ρ H H0 [] [] []
  | dat {x : V} {d : D} {xs : List V} {es : List Nd} {bs : List Addr} (h : Dq K H0 x d) (ht : isT d = true) (t : NdsN K n σ ρ H H0 xs es bs) : NdsN K n σ ρ H H0 (x :: xs) (.d d :: es) bs
  | lst {b : Addr} {ys : List V} {ds : List D} {xs : List V} {es : List Nd} {bs : List Addr} (h : H b = some (.lst ys)) (hd : DqAll K H0 ys ds) (ht : isTs ds = true) (h0 : H0 b = none) (he : n.He b = none) (hs : ∀ (i : Nat) (es : List D), ρ[i]? = some (Sl.ow es) → σ[i]? ≠ some (some (V.ref b))) (hn : b ∉ bs) (t : NdsN K n σ ρ H H0 xs es bs) : NdsN K n σ ρ H H0 (.ref b :: xs) (.l ds :: es) (b :: bs)
theorem NdsN.unkeep {K : PySem.W.Frag} {n : En} {σ : L2.St} {ρ : List Sl} {H H0 : Hp} {p : Addr} {o : HO} (hp : n.He p = none) : ∀ {xs : List V} {es : List Nd} {bs : List Addr}, NdsN K (n.keep p o) σ ρ H H0 xs es bs → NdsN K n σ ρ H H0 xs es bs ∧ p ∉ bs
  | _, _, _, .nil => ⟨.nil, by simp⟩
  | _, _, _, .dat h ht t => ⟨.dat h ht (NdsN.unkeep hp t).1, (NdsN.unkeep hp t).2⟩
  | _, _, _, .lst (b := b) h hd ht h0 he hs hn t => by
    have he' : upd n.He p o b = none := he
    have ne : b ≠ p := fun q => by rw [q, upd_same] at he'; cases he'
    rw [upd_ne ne] at he'
    refine ⟨.lst h hd ht h0 he' hs hn (NdsN.unkeep hp t).1, fun q => ?_⟩
    rcases List.mem_cons.mp q with q | q
    · exact ne q.symm
    · exact (NdsN.unkeep hp t).2 q
theorem NdsN.at {K : PySem.W.Frag} {n : En} {σ : L2.St} {ρ : List Sl} {H H0 : Hp} {p : Addr} {o : HO} (hp : H p = none) (S : Same H0 H) : ∀ {xs : List V} {es : List Nd} {bs : List Addr}, NdsN K n σ ρ H H0 xs es bs → NdAll K (upd H p o) xs es bs ∧ p ∉ bs ∧ ∀ b ∈ bs, H0 b = none ∧ n.He b = none ∧ ∀ (i : Nat) (es : List D), ρ[i]? = some (Sl.ow es) → σ[i]? ≠ some (some (V.ref b))
  | _, _, _, .nil => ⟨.nil, by simp, fun b h => by cases h⟩
  | _, _, _, .dat h ht t => ⟨.dat (dp_mono (S.trans (same_up hp)) _ _ h) ht (NdsN.at hp S t).1, (NdsN.at (o := o) hp S t).2⟩
  | _, _, _, .lst (b := b) h hd ht h0 he hs hn t => by
    have ne : b ≠ p := ne_of_none h hp
    refine ⟨.lst (by rw [upd_ne ne]; exact h) (dpa_mono (S.trans (same_up hp)) _ _ hd) ht hn (NdsN.at hp S t).1, fun q => ?_, fun c hc => ?_⟩
    · rcases List.mem_cons.mp q with q | q
      · exact ne q.symm
      · exact (NdsN.at (o := o) hp S t).2.1 q
    · rcases List.mem_cons.mp hc with q | q
      · rw [q]; exact ⟨h0, he, hs⟩
      · exact (NdsN.at (o := o) hp S t).2.2 c q
abbrev QN := List Sl → (List Nd → List Sl → Prop) → Prop
def tN (K : PySem.W.Frag) (J : Jr) (m : Nat) (q : QN) : TA := fun σ H Q => ∃ (n : En) (H0 : Hp) (ρ : List Sl) (P : List Nd → List Sl → Prop), Rp K J n σ H H0 ρ ∧ q ρ P ∧
  ∀ vs H' H0' es bs ρ', Rp K J n σ H' H0' ρ' → Same H0 H0' → NdsN K n σ ρ' H' H0' vs es bs → vs.length = m → P es ρ' → Q vs H'
abbrev PN (J : Jr) (X : Cx) (es : List Expr) (m : Nat) (q : QN) : Prop := PA X es (tN X.K J m q)
def qnNil : QN := fun ρ P => P [] ρ
def qnCons (qe : QR) (qr : QN) : QN := fun ρ P => qe ρ fun r ρ1 => qr ρ1 fun es ρ2 => match r with
  | .da d => isT d = true ∧ P (.d d :: es) ρ2
  | .ow ds => isTs ds = true ∧ P (.l ds :: es) ρ2
  | _ => False
section
variable {X : Cx} {J : Jr} {e a b c : Expr} {es : List Expr} {pos : Pos} {st : Stmt} {sts : List Stmt}
theorem pn_nil : PN J X [] 0 qnNil := pa_mono pa_nil fun σ H Q ⟨n, H0, ρ, P, R, w, k⟩ => k [] H H0 [] [] ρ R (.refl _) .nil rfl w
theorem pn_cons {m : Nat} {qe : QR} {qr : QN} (he : PR J X e qe) (hr : PN J X es m qr) (hs : starEach (e :: es) X.env = (false, eval e X.env) :: starEach es X.env := by rfl) : PN J X (e :: es) (m + 1) (qnCons qe qr) :=
  pa_mono (pa_cons he hr hs) fun σ H Q ⟨n, H0, ρ, P, R, w, k⟩ => ⟨n, H0, ρ, _, R, w, fun v H1 H01 r ρ1 R1 S1 hres w1 => by
    cases r with
    | un => exact hres.elim
    | ja => exact hres.elim
    | jo c => exact hres.elim
    | da d => exact ⟨n, H01, ρ1, _, R1, w1, fun vs H2 H02 es bs ρ2 R2 S2 hN hm ⟨ht, hp⟩ => k (v :: vs) H2 H02 (.d d :: es) bs ρ2 R2 (S1.trans S2) (.dat (dp_mono S2 _ _ hres) ht hN) (by rw [List.length_cons, hm]) hp⟩
    | ow ds =>
      obtain ⟨a, xs, rfl, h2, h3, h4, h5, h6⟩ := hres
      refine ⟨n.keep a (.lst xs), H01, ρ1, _, R1.keep h2 h4 h5 h6, w1, fun vs H2 H02 es bs ρ2 R2 S2 hN hm ⟨ht, hp⟩ => ?_⟩
      have na : a ∉ n.as := fun q => (R1.jdom a q).2 h5
      have hk := Rp.kept na R2
      have hk0 := Rp.kept0 (R1.base.free h4) R2
      obtain ⟨hN', hn⟩ := hN.unkeep h5
      have hs2 : ∀ (i : Nat) (es : List D), ρ2[i]? = some (Sl.ow es) → σ[i]? ≠ some (some (V.ref a)) := fun i es z t => by
        obtain ⟨a', xs', y1, y2, y3, y4, y5⟩ := R2.sl i _ z
        rw [y1] at t
        cases t
        have y5' : upd n.He a (.lst xs) a = none := y5
        rw [upd_same] at y5'
        cases y5'
      exact k (.ref a :: vs) H2 H02 (.l ds :: es) (a :: bs) ρ2 (R2.unkeep h5 R1.jdom) (S1.trans S2) (.lst hk (dpa_mono S2 _ _ h3) ht hk0 h5 hs2 hn hN') (by rw [List.length_cons, hm]) hp⟩
end
/-! ### the maker -/
def NewJ (K : PySem.W.Frag) (n : En) (H' : Hp) (as : List Addr) (v : V) (c : Jc) : Prop :=
  ∃ H0', Same H0' H' ∧ (∀ a o, n.He a = some o → H' a = some o) ∧ Same n.H0 H0' ∧ (∀ a, n.H0 a = none → n.He a ≠ none → H0' a = none) ∧ JAt K H' as v c ∧ ∀ a ∈ as, H0' a = none ∧ n.He a = none
abbrev QM := (Jc → Prop) → List Sl → Prop
abbrev PPm := List Ag → (Jc → Prop) → Prop
def tM (K : PySem.W.Frag) (J : Jr) (q : QM) : TS := fun D σ H => ∃ (n : En) (H0 : Hp) (ρ : List Sl) (R : Jc → Prop), Rp K J n σ H H0 ρ ∧ n.as = [] ∧ q R ρ ∧ ∀ c v H' as, R c → NewJ K n H' as v c → D.rt v H'
abbrev EndM (P : List Sl → Prop) : EndD := ⟨P, fun _ _ => False, fun _ => False, fun _ => False⟩
def qmSeq (q : QS) (r : QM) : QM := fun R ρ => q (EndM (r R)) ρ
def qmRet (q : QN) : QM := fun R ρ => q ρ fun es _ => R ⟨none, es⟩
def qmDisp (i : Nat) (q : QN) (r : QM) : QM := fun R ρ => q ρ fun es ρ' => r R (ρ'.set i (.jo ⟨none, es⟩))
def qoRet (i : Nat) : QM := fun R ρ => ∃ c, ρ[i]? = some (.jo c) ∧ R c
def tMo (K : PySem.W.Frag) (i : Nat) (q : QM) : TS := fun D σ H => ∃ (n n0 : En) (H0 : Hp) (ρ : List Sl) (R : Jc → Prop), Rp K (jarO K i) n σ H H0 ρ ∧ n.as ≠ [] ∧ n.H0 = n0.H0 ∧ (∀ a ∈ n.as, n0.He a = none) ∧ (∀ a o, n0.He a = some o → n.He a = some o) ∧ q R ρ ∧ ∀ c v H', R c → NewJ K n0 H' n.as v c → D.rt v H'
section
variable {X : Cx} {J : Jr} {e a b c : Expr} {es : List Expr} {pos : Pos} {st : Stmt} {sts : List Stmt}
theorem mk_seq {q : QS} {r : QM} (h : PSd J X st q) (h2 : PSs X sts (tM X.K J r)) : PSs X (st :: sts) (tM X.K J (qmSeq q r)) :=
  pss_mono (pss_cons h h2) fun D σ H ⟨n, H0, ρ, R, Rr, ha, w, k⟩ => ⟨n, H0, ρ, _, Rr, w, fun σ' H' H0' ρ' R' _ z => ⟨n, H0', ρ', R, R', ha, z, k⟩, fun _ _ _ _ _ _ _ _ _ z => z.elim, fun _ _ _ _ _ _ z => z.elim, fun _ _ _ _ _ _ z => z.elim⟩
theorem new_at {K : PySem.W.Frag} {n : En} {σ : L2.St} {H H0 : Hp} {ρ : List Sl} {vs : List V} {es : List Nd} {bs : List Addr} {p : Addr} (R : Rp K J n σ H H0 ρ) (ha : n.as = []) (hN : NdsN K n σ ρ H H0 vs es bs) (hp : H p = none) : NewJ K n (upd H p (.lst vs)) (p :: bs) (.ref p) ⟨none, es⟩ := by
  obtain ⟨h1, h2, h3⟩ := hN.at (o := .lst vs) hp R.sub
  refine ⟨H0, R.sub.trans (same_up hp), fun a o z => ?_, R.base, R.fresh, ⟨p, vs, bs, rfl, rfl, by rw [upd_same]; rfl, h1, h2, fun ks hks => by cases hks⟩, fun a ha' => ?_⟩
  · have z' := R.fr a o (by rw [ha]; simp) z
    rw [upd_ne (ne_of_none z' hp)]
    exact z'
  · rcases List.mem_cons.mp ha' with q | q
    · rw [q]; exact ⟨R.h0 hp, R.he0 hp⟩
    · exact ⟨(h3 a q).1, (h3 a q).2.1⟩
theorem mk_ret {m : Nat} {q : QN} {p2 : Pos} (h : PN J X es m q) (hm : decide (m ≤ 1000) = true) : PSs X [.Return (some (.List es p2)) pos] (tM X.K J (qmRet q)) :=
  pss_mono (pss_one (ps_ret (pe_lst h))) fun D σ H ⟨n, H0, ρ, R, Rr, ha, w, k⟩ => ⟨n, H0, ρ, _, Rr, w, fun vs H1 H01 es bs ρ1 R1 S1 hN hl w1 => by
    have hm := of_decide_eq_true hm
    exact ⟨Nat.le_of_lt (small1000 (by omega)), fun p hp => k _ _ _ _ w1 (new_at R1 ha hN hp)⟩⟩
theorem mk_disp {m i : Nat} {q : QN} {r : QM} {x : Str} {p1 p2 : Pos} (hN : X.N.Nodup) (hi : X.N[i]? = some x) (hx : Loc X.env.scope x) (h : PN J X es m q) (hm : decide (m ≤ 1000) = true) (h2 : PSs X sts (tMo X.K i r))
    (hs : swapsWith (.List es p2) (some (.Name x p1)) pos.line X.env = pure false := by rfl)
    (hf : X.fn x = true ∨ X.env.scope.names.lookup x = some .local := by first | exact .inl rfl | exact .inr rfl | assumption) : PSs X (.Assign [.Name x p1] (.List es p2) pos :: sts) (tM X.K J (qmDisp i q r)) :=
  pss_mono (pss_cons (ps_set hN hi hx (pe_lst h) hs hf) h2) fun D σ H ⟨n, H0, ρ, R, Rr, ha, w, k⟩ => ⟨n, H0, ρ, _, Rr, w, fun vs H1 H01 es bs ρ1 R1 S1 hN hl w1 => by
    have hm := of_decide_eq_true hm
    refine ⟨Nat.le_of_lt (small1000 (by omega)), fun p hp => ?_⟩
    obtain ⟨H0', g1, g2, g3, g4, g5, g6⟩ := new_at R1 ha hN hp
    obtain ⟨n1, n2, n3⟩ := hN.at (o := .lst vs) hp R1.sub
    have out : ∀ a, n.He a ≠ none → a ∉ p :: bs := fun a h q => h (g6 a q).2
    have h0n : ∀ a ∈ p :: bs, H01 a = none := fun a q => by
      rcases List.mem_cons.mp q with q | q
      · rw [q]; exact R1.h0 hp
      · exact (n3 a q).1
    have old : ∀ {m : Nat} {es1 : List PyData} {y : Sl}, (ρ1.set i (.jo ⟨none, es⟩))[m]? = some (.ow es1) → i ≠ m ∧ ρ1[m]? = some (.ow es1) := fun {m es1 y} z => by
      rw [get_set] at z
      by_cases q : i = m
      · rw [if_pos q] at z
        split at z <;> cases z
      · rw [if_neg q] at z
        exact ⟨q, z⟩
    refine ⟨⟨fun a => if a ∈ p :: bs then upd H1 p (.lst vs) a else n.He a, n.H0, p :: bs, .ref p⟩, n, H01, _, R, ?_, by simp, rfl, fun a q => (g6 a q).2, fun a o z => ?_, w1, fun c v H' hc hj => k c v H' _ hc hj⟩
    · refine ⟨by rw [List.length_set, List.length_set]; exact R1.len, R1.sub.trans (same_up hp), fun j s z => ?_, fun a b ds es hab z1 z2 => ?_, fun a o hna z => ?_, R1.base, fun a z1 z2 => ?_, fun _ => ⟨_, g5⟩, fun a q => ?_, fun j c z => ?_⟩
      · rw [get_set] at z
        by_cases q : i = j
        · rw [if_pos q] at z
          split at z
          · cases z
            subst q
            exact ⟨by rw [get_set, if_pos rfl, if_pos (by rw [R1.len]; assumption)], by simp, g5⟩
          · cases z
        · rw [if_neg q] at z
          have y := R1.sl j s z
          have g : (σ.set i (some (V.ref p)))[j]? = σ[j]? := by rw [get_set, if_neg q]
          cases s with
          | un => trivial
          | da d => obtain ⟨u, y1, y2⟩ := y; exact ⟨u, by rw [g]; exact y1, y2⟩
          | ow ds =>
            obtain ⟨a, xs, y1, y2, y3, y4, y5⟩ := y
            have np : a ≠ p := ne_of_none y2 hp
            have nb : a ∉ p :: bs := fun t => by
              rcases List.mem_cons.mp t with t | t
              · exact np t
              · exact (n3 a t).2.2 j ds z y1
            exact ⟨a, xs, by rw [g]; exact y1, by rw [upd_ne np]; exact y2, y3, y4, by show (if a ∈ p :: bs then upd H1 p (.lst vs) a else n.He a) = none; rw [if_neg nb]; exact y5⟩
          | ja => exact absurd ha y.2
          | jo c => exact absurd ha y.2.1
      · obtain ⟨na, za⟩ := old (y := .un) z1
        obtain ⟨nb, zb⟩ := old (y := .un) z2
        rw [get_set, get_set, if_neg na, if_neg nb]
        exact R1.sep a b ds es hab za zb
      · have z' : (if a ∈ p :: bs then upd H1 p (.lst vs) a else n.He a) = some o := z
        rw [if_neg hna] at z'
        have y := R1.fr a o (by rw [ha]; simp) z'
        rw [upd_ne (ne_of_none y hp)]
        exact y
      · by_cases q : a ∈ p :: bs
        · exact h0n a q
        · have z' : (if a ∈ p :: bs then upd H1 p (.lst vs) a else n.He a) ≠ none := z2
          rw [if_neg q] at z'
          exact R1.fresh a z1 z'
      · refine ⟨R1.base.free (h0n a q), ?_⟩
        show (if a ∈ p :: bs then upd H1 p (.lst vs) a else n.He a) ≠ none
        rw [if_pos q]
        exact g5.dom a q
      · rw [get_set] at z
        by_cases q : i = j
        · rw [q]; rfl
        · rw [if_neg q] at z
          exact absurd ha (R1.sl j _ z).2.1
    · show (if a ∈ p :: bs then upd H1 p (.lst vs) a else n.He a) = some o
      rw [if_neg (out a (by rw [z]; intro t; cases t))]
      exact z⟩
theorem mo_seq {i : Nat} {q : QS} {r : QM} (h : PSd (jarO X.K i) X st q) (h2 : PSs X sts (tMo X.K i r)) : PSs X (st :: sts) (tMo X.K i (qmSeq q r)) :=
  pss_mono (pss_cons h h2) fun D σ H ⟨n, n0, H0, ρ, R, Rr, ha, e1, e2, e3, w, k⟩ => ⟨n, H0, ρ, _, Rr, w, fun σ' H' H0' ρ' R' _ z => ⟨n, n0, H0', ρ', R, R', ha, e1, e2, e3, z, k⟩, fun _ _ _ _ _ _ _ _ _ z => z.elim, fun _ _ _ _ _ _ z => z.elim, fun _ _ _ _ _ _ z => z.elim⟩
theorem mo_ret {i : Nat} (h : PE X e (tVar i)) : PSs X [.Return (some e) pos] (tMo X.K i (qoRet i)) :=
  pss_mono (pss_one (ps_ret h)) fun D σ H ⟨n, n0, H0, ρ, R, Rr, ha, e1, e2, e3, ⟨c, w, hc⟩, k⟩ => by
    obtain ⟨g1, g2, g3⟩ := Rr.sl i _ w
    refine ⟨n.jv, g1, k c _ _ hc ⟨H0, Rr.sub, fun a o z => ?_, by rw [← e1]; exact Rr.base, fun a z1 z2 => ?_, g3, fun a q => ⟨Rr.jh0 q, e2 a q⟩⟩⟩
    · exact Rr.fr a o (fun q => by rw [e2 a q] at z; cases z) (e3 a o z)
    · refine Rr.fresh a (by rw [e1]; exact z1) ?_
      cases z : n0.He a with
      | none => exact absurd z z2
      | some o => rw [e3 a o z]; intro t; cases t
/-- a maker's promise -/
def spM (K : PySem.W.Frag) (pp : PPm) : Sp := fun vs H Q _ => ∃ (H0 : Hp) (jv : V) (gs : List Ag), Same H0 H ∧ Paired (AgOk K H0 [] jv) vs gs ∧ ∃ R : Jc → Prop, pp gs R ∧ ∀ c v H' as, R c → NewJ K ⟨H, H0, [], jv⟩ H' as v c → Q v H'
end
structure CalM (P : Program) (w : World) (K : PySem.W.Frag) (mg : Str → Option Value) (base : Heap) (k : Nat) (x : Str) (st : Stmt) (ps : List Str) (pp : PPm) : Prop where
  ex : ∃ f fd, FnOk P w K mg base CX0 k f fd ps (spM K pp) ∧ mg x = some (.ref f) ∧ FnP K x st f fd ∧ Binds K fd ps []
theorem start_rp {K : PySem.W.Frag} {J : Jr} {H H0 : Hp} {N ps : List Str} {vs : List V} {gs : List Ag} {jv : V} (h1 : Same H0 H) (h4 : Paired (AgOk K H0 [] jv) vs gs) (hl : gs.length ≤ N.length) : Rp K J ⟨H, H0, [], jv⟩ (L2.start N vs) H H0 (startD N.length gs) := by
  have hlen := pair_len h4
  have look : ∀ (i : Nat) (s : Sl), (startD N.length gs)[i]? = some s → s = Sl.un ∨ ∃ d v, s = Sl.da d ∧ vs[i]? = some v ∧ Dq K H0 v d := fun i s e => by
    unfold startD at e
    by_cases q : i < gs.length
    · rw [List.getElem?_append_left (by rw [List.length_map]; exact q), List.getElem?_map] at e
      cases z : gs[i]? with
      | none => rw [z] at e; cases e
      | some g =>
        rw [z] at e
        cases e
        obtain ⟨v, w1, w2⟩ := pair_get h4 z
        cases g with
        | d x => exact .inr ⟨x, v, rfl, w1, w2⟩
        | j => exact absurd rfl w2.2
    · rw [List.getElem?_append_right (by rw [List.length_map]; omega), List.getElem?_replicate] at e
      split at e
      · cases e; exact .inl rfl
      · cases e
  refine ⟨?_, h1, fun i s e => ?_, fun i j ds es _ e _ => ?_, fun a o _ e => e, .refl _, fun a e _ => e, fun z => absurd rfl z, fun a ha => by simp at ha, fun i c e => ?_⟩
  · unfold L2.start startD
    rw [List.length_append, List.length_append, List.length_map, List.length_map, List.length_replicate, List.length_replicate, hlen]
  · rcases look i s e with rfl | ⟨d, v, rfl, w1, w2⟩
    · trivial
    · refine ⟨v, ?_, w2⟩
      have li : i < vs.length := (List.getElem?_eq_some_iff.mp w1).1
      unfold L2.start
      rw [List.getElem?_append_left (by rw [List.length_map]; exact li), List.getElem?_map, w1]
      rfl
  · rcases look i _ e with z | ⟨_, _, z, _⟩ <;> cases z
  · rcases look i _ e with z | ⟨_, _, z, _⟩ <;> cases z
theorem makeD_ok {P : Program} {w : World} {K : PySem.W.Frag} {mg : Str → Option Value} {base : Heap} {J : Jr} {x : Str} {st : Stmt} {f : Addr} {fd : FuncData} {N ps : List Str} {k : Nat} {pp : PPm} {qs : QM} (F : FnP K x st f fd) (hx : mg x = some (.ref f)) (S : FnScope N ps (defScope st)) (hB : Binds K fd ps [])
    (hl : ∀ gs R, pp gs R → gs.length = ps.length) (hN : decide (ps.length ≤ N.length) = true) (hb : ∀ (cdv : Value) (A : Around) (outer : List Env) (s : Shared) (H : Hp) (E : XK), Room k (A.deeper (envOfC x (defScope st) s.heap.objs.size f cdv)) →
      PSs (cxOf CX0 P w K mg base N x (defScope st) f cdv A outer s H E).nox (defBody st) (tM K J qs))
    (spec : ∀ gs R, pp gs R → qs R (startD N.length gs)) : CalM P w K mg base (k + 1) x st ps pp := by
  refine ⟨f, fd, ?_, hx, F, hB⟩
  refine FunD.ok F S (fun vs H Q E ⟨H0, jv, gs, _, h, R, h2, _⟩ => by rw [pair_len h]; exact hl gs R h2) (fun cdv A outer s H vs Q E hr z => ?_)
  obtain ⟨H0, jv, gs, h1, h4, R, h5, h6⟩ := z
  refine ⟨_, (hb cdv A outer s H E hr).nox, ⟨H, H0, [], jv⟩, H0, _, R, start_rp (ps := ps) h1 h4 (by rw [hl gs R h5]; exact of_decide_eq_true hN), rfl, spec gs R h5, fun c v H' as hc hj => h6 c v H' as hc hj⟩
/-! ### the law -/
abbrev EndL : EndD := ⟨fun _ => False, fun r _ => r = .da (.bool true), fun _ => False, fun _ => False⟩
def tLw (K : PySem.W.Frag) (J : Jr) (q : QS) : TS := fun D σ H => ∃ (n : En) (H0 : Hp) (ρ : List Sl), Rp K J n σ H H0 ρ ∧ n.as = [] ∧ q EndL ρ ∧ ∀ H', D.rt (.bl true) H'
/-- jar = maker(..) -/
def qMake (i : Nat) (good : Jc → Prop) (pp : PPm) (qa : QA) (q : QS) : QS := fun E ρ => qa ρ fun as ρ' => ∃ gs, resv ρ' as = some gs ∧ pp gs fun c => good c ∧ q E ((frzs ρ' as).set i .ja)
section
variable {X : Cx} {J : Jr} {e a b c : Expr} {es : List Expr} {pos : Pos} {st : Stmt} {sts : List Stmt}
theorem law_seq {q r : QS} (h : PSd J X st q) (h2 : PSs X sts (tLw X.K J r)) : PSs X (st :: sts) (tLw X.K J (qSeq q r)) :=
  pss_mono (pss_cons h h2) fun D σ H ⟨n, H0, ρ, R, ha, w, k⟩ => ⟨n, H0, ρ, _, R, w, fun σ' H' H0' ρ' R' _ z => ⟨n, H0', ρ', R', ha, z, k⟩, fun v σ' H' H0' r ρ' R' _ hr (z : r = _) => by
    subst z
    have e := dp_bool hr
    subst e
    exact k H', fun _ _ _ _ _ _ z => z.elim, fun _ _ _ _ _ _ z => z.elim⟩
theorem law_make {good : Jc → Prop} {i k k' : Nat} {pp : PPm} {qa : QA} {q : QS} {x y : Str} {st' : Stmt} {ps : List Str} {p p1 : Pos} (C : CalM X.prog X.w X.K X.mg X.base k x st' ps pp) (hr : Room k' X.A) (hk : k ≤ k') (hg : Gl X x)
    (hN : X.N.Nodup) (hi : X.N[i]? = some y) (hy : Loc X.env.scope y) (ha : PAa J X (e :: es) qa) (h2 : PSsd (jarN X.K good) X sts q)
    (hdb : (x == ("__debug__" : Str)) = false := by decide) (he : starEach (e :: es) X.env = (false, eval e X.env) :: starEach es X.env := by rfl) (hpl : (backTo pos (starEach es X.env)).any (·.1) = false := by rfl)
    {pos2 : Pos} (hs : swapsWith (.Call (.Name x p) (e :: es) [] pos) (some (.Name y p1)) pos2.line X.env = pure false := by rfl)
    (hf : X.fn y = true ∨ X.env.scope.names.lookup y = some .local := by first | exact .inl rfl | exact .inr rfl | assumption) :
    PSs X (.Assign [.Name y p1] (.Call (.Name x p) (e :: es) [] pos) pos2 :: sts) (tLw X.K J (qMake i good pp qa q)) := by
  obtain ⟨f, fd, F, hm, G, hb⟩ := C.ex
  refine pss_mono (pss_cons (ps_set hN hi hy (pe_call F (hr.mono hk) hg hm G.kp hb .nil pass0 ha hdb he hpl) hs hf) h2) fun D σ H ⟨n, H0, ρ, R, has, w, kk⟩ => ?_
  refine ⟨n, H0, ρ, _, R, w, fun vs H1 H01 as ρ1 R1 S1 hp ⟨gs, hg2, w1⟩ => ?_⟩
  obtain ⟨H0f, Sf, Rf, hf2⟩ := Rp.args (.refl H01) as ρ1 H01 vs gs R1 hp hg2
  rw [List.append_nil]
  rw [has] at hf2
  refine ⟨H0f, n.jv, gs, Rf.sub, hf2, _, w1, fun c v H' as' ⟨hgood, hq⟩ ⟨H0', j1, j2, j3, j4, j5, j6⟩ => ?_⟩
  have j2 : ∀ a o, H1 a = some o → H' a = some o := j2
  have j3 : Same H0f H0' := j3
  have j4 : ∀ a, H0f a = none → H1 a ≠ none → H0' a = none := j4
  have j6 : ∀ a ∈ as', H0' a = none ∧ H1 a = none := j6
  have ne : as' ≠ [] := by
    obtain ⟨j, xs, bs, e1, _⟩ := j5
    rw [e1]
    simp
  have old : ∀ {m : Nat} {es1 : List PyData} {y : Sl}, ((frzs ρ1 as).set i .ja)[m]? = some (.ow es1) → i ≠ m ∧ (frzs ρ1 as)[m]? = some (.ow es1) := fun {m es1 y} z => by
    rw [get_set] at z
    by_cases q : i = m
    · rw [if_pos q] at z
      split at z <;> cases z
    · rw [if_neg q] at z
      exact ⟨q, z⟩
  refine ⟨⟨fun a => if a ∈ as' then H' a else n.He a, n.H0, as', v⟩, H0', _, EndL, ?_, hq, fun _ _ _ _ _ _ z => z.elim, fun v' σ' H2 H02 r ρ' R' _ hr' (z : r = _) => ?_, fun _ _ _ _ _ _ z => z.elim, fun _ _ _ _ _ _ z => z.elim⟩
  · refine ⟨by rw [List.length_set, List.length_set]; exact Rf.len, j1, fun m s z => ?_, fun a b ds es hab z1 z2 => ?_, fun a o hna z => ?_, Rf.base.trans j3, fun a z1 z2 => ?_, fun _ => ⟨c, hgood, j5⟩, fun a q => ?_, fun j c z => ?_⟩
    · rw [get_set] at z
      by_cases q : i = m
      · rw [if_pos q] at z
        split at z
        · cases z
          subst q
          exact ⟨by rw [get_set, if_pos rfl, if_pos (by rw [Rf.len]; assumption)], ne⟩
        · cases z
      · rw [if_neg q] at z
        have y := Rf.sl m s z
        have g : (σ.set i (some v))[m]? = σ[m]? := by rw [get_set, if_neg q]
        cases s with
        | un => trivial
        | da d => obtain ⟨u, y1, y2⟩ := y; exact ⟨u, by rw [g]; exact y1, dp_mono j3 _ _ y2⟩
        | ow ds =>
          obtain ⟨a, xs, y1, y2, y3, y4, y5⟩ := y
          have nb : a ∉ as' := fun t => by rw [(j6 a t).2] at y2; cases y2
          exact ⟨a, xs, by rw [g]; exact y1, j2 a _ y2, dpa_mono j3 _ _ y3, j4 a y4 (by rw [y2]; intro t; cases t), by show (if a ∈ as' then H' a else n.He a) = none; rw [if_neg nb]; exact y5⟩
        | ja => exact absurd has y.2
        | jo c => exact absurd has y.2.1
    · obtain ⟨na, za⟩ := old (y := .un) z1
      obtain ⟨nb, zb⟩ := old (y := .un) z2
      rw [get_set, get_set, if_neg na, if_neg nb]
      exact Rf.sep a b ds es hab za zb
    · have z' : (if a ∈ as' then H' a else n.He a) = some o := z
      rw [if_neg hna] at z'
      exact j2 a o (Rf.fr a o (by rw [has]; simp) z')
    · by_cases q : a ∈ as'
      · exact (j6 a q).1
      · have z' : (if a ∈ as' then H' a else n.He a) ≠ none := z2
        rw [if_neg q] at z'
        exact j4 a (Rf.fresh a z1 z') (Rf.hej z')
    · refine ⟨(Rf.base.trans j3).free (j6 a q).1, ?_⟩
      show (if a ∈ as' then H' a else n.He a) ≠ none
      rw [if_pos q]
      exact j5.dom a q
    · rw [get_set] at z
      by_cases q : i = j
      · rw [if_pos q] at z
        split at z <;> cases z
      · rw [if_neg q] at z
        exact absurd has (Rf.sl j _ z).2.1
  · subst z
    have e := dp_bool hr'
    subst e
    exact kk H2
end
/-- what the law's caller gives -/
def spLaw (K : PySem.W.Frag) : Sp := fun vs H Q _ => ∃ (a : Addr) (ns : List Int), vs = [.ref a] ∧ SqL K H a (ns.map V.int) ∧ ns.length ≤ 63 ∧ ∀ H', Q (.bl true) H'
theorem dqa_ints {K : PySem.W.Frag} {H : Hp} : ∀ (bs : List Int), DqAll K H (bs.map V.int) (bs.map PyData.int)
  | [] => .nil
  | b :: bs => .cons (.int b) (dqa_ints bs)
theorem lawD_ok {P : Program} {w : World} {K : PySem.W.Frag} {mg : Str → Option Value} {base : Heap} {J : Jr} {x p0 : Str} {st : Stmt} {f : Addr} {fd : FuncData} {N : List Str} {k : Nat} {qs : QS} (F : FnP K x st f fd) (S : FnScope N [p0] (defScope st)) (hN : decide (1 ≤ N.length) = true)
    (hb : ∀ (cdv : Value) (A : Around) (outer : List Env) (s : Shared) (H : Hp) (E : XK), Room k (A.deeper (envOfC x (defScope st) s.heap.objs.size f cdv)) →
      PSs (cxOf CX0 P w K mg base N x (defScope st) f cdv A outer s H E).nox (defBody st) (tLw K J qs))
    (spec : ∀ ns : List Int, ns.length ≤ 63 → qs EndL (startD N.length [.d (.list (ns.map .int))])) : FnOk P w K mg base CX0 (k + 1) f fd [p0] (spLaw K) := by
  refine FunD.ok F S (fun vs H Q E ⟨a, ns, h, _⟩ => by rw [h]; rfl) (fun cdv A outer s H vs Q E hr ⟨a, ns, hv, hS, hl, k⟩ => ?_)
  subst hv
  exact ⟨_, (hb cdv A outer s H E hr).nox, ⟨H, H, [], .non⟩, H, _, start_rp (ps := [p0]) (.refl _) (.cons (show AgOk K H [] V.non (.ref a) (.d (.list (ns.map .int))) from Dq.lst hS (dqa_ints ns)) .nil) (of_decide_eq_true hN), rfl, spec ns hl, k⟩
end Zd

set_option Elab.async false
set_option linter.all false
set_option maxRecDepth 100000
set_option maxHeartbeats 4000000
namespace Zd
open PySem PySem.Spec PyProof.Rows L2
/-! ### data and tables of the module -/
mutual
/-- a value of the module that is the datum -/
def datB (K : PySem.W.Frag) : PyData → Value → Bool
  | .none, .none => true
  | .bool b, .bool c => decide (b = c)
  | .int i, .int j _ => decide (i = j)
  | .str x, .str y _ => decide (x = y)
  | .tuple ds, .ref p => (match K.lookup p with
    | some ⟨.type c, _, .seq its _, _⟩ => decide (c = "tuple") && (decide (its.size ≤ 1000) && datsB K ds its.toList)
    | _ => false)
  | _, _ => false
def datsB (K : PySem.W.Frag) : List PyData → List Value → Bool
  | [], [] => true
  | d :: ds, u :: us => datB K d u && datsB K ds us
  | _, _ => false
end
mutual
theorem datB_ok {K : PySem.W.Frag} : ∀ (d : PyData) (u : Value), datB K d u = true → ∃ v, RelV v u ∧ ∀ H, Dq K H v d
  | .none, .none, _ => ⟨.non, rfl, fun _ => .non⟩
  | .bool b, .bool c, h => ⟨.bl b, by rw [show b = c from of_decide_eq_true h]; rfl, fun _ => .bl _⟩
  | .int i, .int j t, h => ⟨.int i, by rw [show i = j from of_decide_eq_true h]; exact ⟨t, rfl⟩, fun _ => .int _⟩
  | .str x, .str y t, h => ⟨.str x, by rw [show x = y from of_decide_eq_true h]; exact ⟨t, rfl⟩, fun _ => .str _⟩
  | .tuple ds, .ref p, h => by
    unfold datB at h
    split at h
    · rename_i c dt its n sl e
      obtain ⟨h1, h2⟩ := Bool.and_eq_true_iff.mp h
      obtain ⟨h3, h4⟩ := Bool.and_eq_true_iff.mp h2
      obtain ⟨vs, hv, hd⟩ := datsB_ok ds its.toList h4
      have ec : c = "tuple" := of_decide_eq_true h1
      subst ec
      exact ⟨.ref p, rfl, fun H => .tup (.inr ⟨_, its, n, e, rfl, rfl, Nat.le_trans (of_decide_eq_true h3) (by decide), hv⟩) (hd H)⟩
    · cases h
theorem datsB_ok {K : PySem.W.Frag} : ∀ (ds : List PyData) (us : List Value), datsB K ds us = true → ∃ vs, Vals vs us ∧ ∀ H, DqAll K H vs ds
  | [], [], _ => ⟨[], .nil, fun _ => .nil⟩
  | d :: ds, u :: us, h => by
    have h' : (datB K d u && datsB K ds us) = true := h
    obtain ⟨h1, h2⟩ := Bool.and_eq_true_iff.mp h'
    obtain ⟨v, r, q⟩ := datB_ok d u h1
    obtain ⟨vs, rs, qs⟩ := datsB_ok ds us h2
    exact ⟨v :: vs, .cons r rs, fun H => .cons (q H) (qs H)⟩
end
abbrev Tb := List (Str × PyData)
def entB (K : PySem.W.Frag) : Tb → List DictEntry → Bool
  | [], [] => true
  | (k, d) :: t, e :: es => (match e.key with
    | .str x _ => decide (x = k)
    | _ => false) && (datB K d e.val && entB K t es)
  | _, _ => false
def tabB (K : PySem.W.Frag) (a : Addr) (t : Tb) : Bool := match K.lookup a with
  | some ⟨_, _, .dict es _, _⟩ => entB K t es.toList
  | _ => false
def Tb.at (t : Tb) (z : Str) : Option PyData := match t with
  | [] => none
  | (k, d) :: r => if z = k then some d else Tb.at r z
/-- a table of the module -/
def TabOk (K : PySem.W.Frag) (w : World) (mg : Str → Option Value) (x : Str) (t : Tb) : Prop := ∃ a es n, mg x = some (.ref a) ∧ KDict K w a es n ∧
  ∀ z, (match t.at z with
    | some d => ∃ u v, PySem.W.nsIn K a z = some (some u) ∧ RelV v u ∧ ∀ H, Dq K H v d
    | none => PySem.W.nsIn K a z = some none)
/-- a datum of the module -/
def DatOk (K : PySem.W.Frag) (mg : Str → Option Value) (x : Str) (d : PyData) : Prop := ∃ u v, mg x = some u ∧ RelV v u ∧ ∀ H, Dq K H v d
theorem entB_at {K : PySem.W.Frag} (z : Str) : ∀ (t : Tb) (es : List DictEntry), entB K t es = true → es.any (·.refKey) = false ∧ (match t.at z with
    | some d => ∃ e v, es.find? (·.key.isStr z) = some e ∧ RelV v e.val ∧ ∀ H, Dq K H v d
    | none => es.find? (·.key.isStr z) = none)
  | [], [], _ => ⟨rfl, rfl⟩
  | (k, d) :: t, e :: es, h => by
    have h' : ((match e.key with
      | .str x _ => decide (x = k)
      | _ => false) && (datB K d e.val && entB K t es)) = true := h
    obtain ⟨h1, h2⟩ := Bool.and_eq_true_iff.mp h'
    obtain ⟨h3, h4⟩ := Bool.and_eq_true_iff.mp h2
    obtain ⟨i1, i2⟩ := entB_at z t es h4
    split at h1
    · rename_i x tk ek
      have exk : x = k := of_decide_eq_true h1
      subst exk
      refine ⟨?_, ?_⟩
      · rw [List.any_cons, i1, Bool.or_false]
        unfold DictEntry.refKey
        rw [ek]
      · have hz : e.key.isStr z = decide (z = x) := by
          rw [ek]
          show (x == z) = decide (z = x)
          by_cases q : z = x
          · subst q; simp
          · rw [decide_eq_false q]
            exact beq_eq_false_iff_ne.mpr (fun t => q t.symm)
        unfold Tb.at
        rw [List.find?_cons, hz]
        by_cases q : z = x
        · rw [if_pos q, decide_eq_true q]
          obtain ⟨v, r, w⟩ := datB_ok d e.val h3
          exact ⟨e, v, rfl, r, w⟩
        · rw [if_neg q, decide_eq_false q]
          exact i2
    · cases h1
theorem tabB_ok {K : PySem.W.Frag} {w : World} {mg : Str → Option Value} {x : Str} {a : Addr} {t : Tb} (h : tabB K a t = true) (hm : mg x = some (.ref a)) (hk : ∃ es n, KDict K w a es n) : TabOk K w mg x t := by
  obtain ⟨es, n, D⟩ := hk
  refine ⟨a, es, n, hm, D, fun z => ?_⟩
  unfold tabB at h
  rw [D.at_] at h
  have h' : entB K t es.toList = true := h
  obtain ⟨i1, i2⟩ := entB_at z t es.toList h'
  have e : PySem.W.nsIn K a z = (match es.toList.find? (·.key.isStr z) with
      | some e => some (some e.val)
      | none => if es.toList.any (·.refKey) then none else some none) := by
    unfold PySem.W.nsIn
    rw [D.at_]
    rfl
  cases q : t.at z with
  | none =>
    rw [q] at i2
    have i2 : es.toList.find? (·.key.isStr z) = none := i2
    show PySem.W.nsIn K a z = some none
    rw [e, i2, i1]
    rfl
  | some d =>
    rw [q] at i2
    obtain ⟨f, v, g1, g2, g3⟩ := i2
    refine ⟨f.val, v, ?_, g2, g3⟩
    rw [e, g1]
section
variable {X : Cx} {J : Jr} {e a b c : Expr} {es : List Expr} {pos : Pos}
def qKget (t : Tb) (qe : QD) : QD := fun ρ P => qe ρ fun d ρ' => ∃ z dv, d = .str z ∧ t.at z = some dv ∧ P dv ρ'
theorem pd_kget {t : Tb} {x : Str} {p : Pos} {qe : QD} (h : TabOk X.K X.w X.mg x t) (hg : Gl X x) (he : PD J X e qe) (hs : PlainIx e) (hdb : (x == ("__debug__" : Str)) = false := by decide) : PD J X (.Subscript (.Name x p) e pos) (qKget t qe) := by
  obtain ⟨a, es, n, hm, D, hz⟩ := h
  exact pe_mono (pe_ix ix_kdict (pe_glob (v := .ref a) hg hm rfl hdb) he hs) fun σ H Q ⟨n, H0, ρ, P, R, w, k⟩ => ⟨n, H0, ρ, _, R, w, fun v H1 H01 d ρ1 R1 S1 hd ⟨z, dv, ez, ht, hp⟩ => by
    subst ez
    have q := hz z
    rw [ht] at q
    obtain ⟨u, v0, q1, q2, q3⟩ := q
    exact ⟨a, z, v0, rfl, dp_str hd, ⟨es, _, u, D.at_, D.lit, q1, q2⟩, k v0 H1 H01 dv ρ1 R1 S1 (q3 _) hp⟩⟩
def qKin (t : Tb) (g : Bool → Bool) (qe : QD) : QR := fun ρ P => qe ρ fun d ρ' => ∃ z, d = .str z ∧ P (.da (.bool (g (t.at z).isSome))) ρ'
theorem kin_ready {K : PySem.W.Frag} {n : En} {σ : L2.St} {H H0 : Hp} {ρ : List Sl} {t : Tb} {w : World} {mg : Str → Option Value} {x : Str} (h : TabOk K w mg x t) : ∃ a es n, mg x = some (.ref a) ∧ KDict K w a es n ∧ ∀ z, ∃ r, PySem.W.nsIn K a z = some r ∧ r.isSome = (t.at z).isSome := by
  obtain ⟨a, es, n, hm, D, hz⟩ := h
  refine ⟨a, es, n, hm, D, fun z => ?_⟩
  have q := hz z
  cases e : t.at z with
  | none => rw [e] at q; exact ⟨none, q, rfl⟩
  | some d => rw [e] at q; obtain ⟨u, v, q1, _⟩ := q; exact ⟨some u, q1, rfl⟩
theorem kin_mono {t : Tb} {g : Bool → Bool} {qe : QD} {a : Addr} (hz : ∀ z, ∃ r, PySem.W.nsIn X.K a z = some r ∧ r.isSome = (t.at z).isSome) : ∀ σ H Q, tR X.K J (qKin t g qe) σ H Q → tOp (fun x y H Q => ∃ (z : Str) (r : Option Value), x = .str z ∧ y = .ref a ∧ PySem.W.nsIn X.K a z = some r ∧ Q (.bl (g r.isSome)) H) (tD X.K J qe) (tC (.ref a)) σ H Q := fun σ H Q ⟨n, H0, ρ, P, R, w, k⟩ =>
  ⟨n, H0, ρ, _, R, w, fun v H1 H01 d ρ1 R1 S1 hd ⟨z, ez, hp⟩ => by
    subst ez
    obtain ⟨r, q1, q2⟩ := hz z
    refine ⟨z, r, dp_str hd, rfl, q1, ?_⟩
    rw [q2]
    exact k _ H1 H01 (.da (.bool (g (t.at z).isSome))) ρ1 R1 S1 (Dq.bl _) hp⟩
theorem pr_kin {t : Tb} {x : Str} {p : Pos} {qe : QD} (h : TabOk X.K X.w X.mg x t) (hg : Gl X x) (he : PD J X e qe) (hm : behindInMarks .In (.Name x p) = false := by rfl) (hdb : (x == ("__debug__" : Str)) = false := by decide) : PR J X (.Compare e [.In] [.Name x p] pos) (qKin t (fun b => b) qe) := by
  obtain ⟨a, es, n, hmg, D, hz⟩ := kin_ready (n := ⟨fun _ => none, fun _ => none, [], .non⟩) (σ := []) (H := fun _ => none) (H0 := fun _ => none) (ρ := []) h
  exact pe_mono (pe_cmpR (op_in_kd D) he (pe_glob (v := .ref a) hg hmg rfl hdb) hm) (kin_mono hz)
theorem pr_knotin {t : Tb} {x : Str} {p : Pos} {qe : QD} (h : TabOk X.K X.w X.mg x t) (hg : Gl X x) (he : PD J X e qe) (hm : behindInMarks .NotIn (.Name x p) = false := by rfl) (hdb : (x == ("__debug__" : Str)) = false := by decide) : PR J X (.Compare e [.NotIn] [.Name x p] pos) (qKin t (fun b => !b) qe) := by
  obtain ⟨a, es, n, hmg, D, hz⟩ := kin_ready (n := ⟨fun _ => none, fun _ => none, [], .non⟩) (σ := []) (H := fun _ => none) (H0 := fun _ => none) (ρ := []) h
  exact pe_mono (pe_cmpR (op_notIn_kd D) he (pe_glob (v := .ref a) hg hmg rfl hdb) hm) (kin_mono hz)
theorem pb_kin {t : Tb} {x : Str} {p : Pos} {qe : QD} (h : TabOk X.K X.w X.mg x t) (hg : Gl X x) (he : PD J X e qe) (hm : behindInMarks .In (.Name x p) = false := by rfl) (hdb : (x == ("__debug__" : Str)) = false := by decide) : PB J X (.Compare e [.In] [.Name x p] pos) (qTst (qKin t (fun b => b) qe)) := by
  obtain ⟨a, es, n, hmg, D, hz⟩ := kin_ready (n := ⟨fun _ => none, fun _ => none, [], .non⟩) (σ := []) (H := fun _ => none) (H0 := fun _ => none) (ρ := []) h
  exact pt_mono (pt_cmpR (op_in_kd D) he (pe_glob (v := .ref a) hg hmg rfl hdb) hm) (tst_mono (kin_mono hz))
theorem pb_knotin {t : Tb} {x : Str} {p : Pos} {qe : QD} (h : TabOk X.K X.w X.mg x t) (hg : Gl X x) (he : PD J X e qe) (hm : behindInMarks .NotIn (.Name x p) = false := by rfl) (hdb : (x == ("__debug__" : Str)) = false := by decide) : PB J X (.Compare e [.NotIn] [.Name x p] pos) (qTst (qKin t (fun b => !b) qe)) := by
  obtain ⟨a, es, n, hmg, D, hz⟩ := kin_ready (n := ⟨fun _ => none, fun _ => none, [], .non⟩) (σ := []) (H := fun _ => none) (H0 := fun _ => none) (ρ := []) h
  exact pt_mono (pt_cmpR (op_notIn_kd D) he (pe_glob (v := .ref a) hg hmg rfl hdb) hm) (tst_mono (kin_mono hz))
theorem pd_dat {x : Str} {d : D} {p : Pos} (h : DatOk X.K X.mg x d) (hg : Gl X x) (hdb : (x == ("__debug__" : Str)) = false := by decide) : PD J X (.Name x p) (qC d) := pd_glob hg h hdb
end
/-! ### the head's facts -/
def glB (K : PySem.W.Frag) (x : Str) (d : PyData) : Bool := match PySem.W.nsIn K mainGlobals x with
  | some (some u) => datB K d u
  | _ => false
theorem glB_ok {K : PySem.W.Frag} {h : Heap} {mg : Str → Option Value} {x : Str} {d : PyData} (X : K.In h) (G : h.Ns mainGlobals mg) (e : glB K x d = true) : DatOk K mg x d := by
  unfold glB at e
  split at e
  · rename_i u q
    obtain ⟨v, r, w⟩ := datB_ok d u e
    exact ⟨u, v, PySem.W.mg_of X G q, r, w⟩
  · cases e
def bfB (K : PySem.W.Frag) (x : Str) (id : String) : Bool := match PySem.W.nsIn K mainGlobals x with
  | some (some (.builtin y)) => decide (y = id)
  | _ => false
theorem bfB_ok {K : PySem.W.Frag} {h : Heap} {mg : Str → Option Value} {x : Str} {id : String} (X : K.In h) (G : h.Ns mainGlobals mg) (e : bfB K x id = true) : mg x = some (.builtin id) := by
  unfold bfB at e
  split at e
  · rename_i y q
    have z : y = id := of_decide_eq_true e
    subst z
    exact PySem.W.mg_of X G q
  · cases e
end Zd

set_option Elab.async false
set_option linter.all false
set_option maxRecDepth 100000
set_option maxHeartbeats 4000000
namespace Zd
open PySem PySem.Spec PyProof.Rows L2
/-! ### more of the language: a text from behind, a text many times, the place of a text -/
def revS (x : Str) : Str := ⟨x.cps.toList.reverse.toArray⟩
def tRev (K : PySem.W.Frag) (te : TE) : TE := fun σ H Q => te σ H fun x H1 => (∃ z, x = .str z ∧ z.length ≤ sizeLine ∧ Q (.str (revS z)) H1) ∨ ∃ a xs, x = .ref a ∧ SqL K H1 a xs ∧ ∀ p, H1 p = none → Q (.ref p) (upd H1 p (.lst xs.reverse))
section
variable {X : Cx} {J : Jr} {e a b c : Expr} {es : List Expr} {pos : Pos}
theorem rev_idx (n : Nat) : Builtin.Str.strSliceIndices none none (-1) n = (List.range n).map fun k => n - 1 - k := by
  rw [← PySem.W.krv_sliceRange]
  rfl
theorem rev_pick (x : Str) : ((Builtin.Str.strSliceIndices none none (-1) x.length).filterMap (x.cps[·]?)).toArray = x.cps.toList.reverse.toArray := by
  rw [rev_idx, PySem.W.krv_range, List.filterMap_reverse]
  have : (List.range x.length).filterMap (x.cps[·]?) = x.cps.toList := PySem.W.krv_all x.cps
  rw [this]
theorem pe_rev {te : TE} {k : Nat} {p1 p2 p3 : Pos} (he : PE X e te) : PE X (.Subscript e (.Slice none none (some (.UnaryOp .USub (.Constant (.int 1) k p1) p2)) p3) pos) (tRev X.K te) := by
  refine ⟨fun pins s σ H Q I h => ?_⟩
  refine Subscript_ (thn (he.run pins s σ H _ I h) fun v s1 ⟨x, H1, I1, r1, q1⟩ => ?_)
  have hst : PO X (some (.UnaryOp .USub (.Constant (.int 1) k p1) p2)) (tPart (tUn (rU fun i => .int (-i)) (tC (.int 1)))) := po_some (pe_un un_neg pe_int)
  refine wpAny_Slice (thn (po_none.run pins s1 σ H1 (fun o H2 => o = none ∧ H2 = H1) I1 ⟨rfl, rfl⟩) fun vl s2 ⟨l, H2, I2, pl, el, e2⟩ => ?_)
  subst el e2
  refine thn (po_none.run pins s2 σ H2 (fun o H3 => o = none ∧ H3 = H2) I2 ⟨rfl, rfl⟩) fun vu s3 ⟨u, H3, I3, pu, eu, e3⟩ => ?_
  subst eu e3
  refine thn (hst.run pins s3 σ H3 (fun o H4 => o = some (-1) ∧ H4 = H3) I3 ⟨1, rfl, -1, rfl, rfl, rfl⟩) fun vs s4 ⟨o, H4, I4, ps, eo, e4⟩ => ?_
  subst eo e4
  have I5 : Inv X pins σ H4 { s4 with heap := s4.heap.push { cls := .type "slice", data := .fields #[vl, vu, vs] } } := I4.kept (t' := s4.toks) fun b ob q => Heap.get?_push_of_some _ q
  rcases q1 with ⟨z, ex, hz, q⟩ | ⟨a, xs, ex, hx, q⟩
  rotate_left
  · subst ex
    cases r1
    obtain ⟨its, r, ht, hz⟩ := I5.list hx
    have hlen := r.length
    refine tail_any (ops := [.ref a, .ref s4.heap.objs.size]) ht.isList.typeIs (PySem.slot_list_getitem.lookup) ?_ (by with_unfolding_all rfl)
    refine wpAny_getItem_list_slice ht.isList (Heap.IsSliceOf.new _ vl vu vs) pl pu ps (by decide) ?_ (by rw [List.size_toArray]; omega)
    rw [PySem.W.krv_pick]
    refine ⟨.ref _, _, I5.laid (t' := s4.toks) (o := .lst xs.reverse) (fun b ob q => Heap.get?_push_of_some _ q) (Nat.le_refl _) ?_, rfl, q _ (I5.hok.fresh (Nat.le_refl _))⟩
    exact ⟨by rw [List.length_reverse]; exact hz, _, 0, r.reverse, Heap.get?_push_size _ rfl⟩
  subst ex
  obtain ⟨tz, rfl⟩ := r1
  refine tail_any (ops := [.str z tz, .ref s4.heap.objs.size]) (typeIs_str _ _ _) PySem.F.slot_str_getitem.lookup ?_ (by with_unfolding_all rfl)
  obtain ⟨l, rfl, hl⟩ := IsPart.raw pl
  obtain ⟨u, rfl, hu⟩ := IsPart.raw pu
  obtain ⟨st, rfl, hs⟩ := IsPart.raw ps
  refine wpAny_getItem_str_slice (l := l) (u := u) (st := st) ⟨_, Heap.get?_push_size _ rfl, rfl, rfl⟩ (by rw [hs]; rfl) ?_
  have hlen : (revS z).length ≤ sizeLine := by
    show (z.cps.toList.reverse.toArray).size ≤ sizeLine
    rw [List.size_toArray, List.length_reverse, Array.length_toList]
    exact hz
  have em : sliceMade z tz l u st = .str (revS z) := by
    unfold sliceMade slicePicked revS
    rw [hl, hu, hs, ← rev_pick]
    rfl
  rw [em]
  exact ⟨hlen, .str _, _, I5.tok _, ⟨_, rfl⟩, q⟩
theorem dpa_rev {K : PySem.W.Frag} {H : Hp} : ∀ {ds : List D} {xs : List V}, DqAll K H xs ds → DqAll K H xs.reverse ds.reverse
  | [], _, h => by cases h; exact .nil
  | d :: ds, _, h => by
    cases h with
    | cons h1 h2 =>
      rw [List.reverse_cons, List.reverse_cons]
      exact dpa_app (dpa_rev h2) (dpa_one h1)
/-- e[::-1] of a text or a list -/
def qRev (q : QD) : QR := fun ρ P => q ρ fun d ρ' => match d with
  | .str z => z.length ≤ sizeLine ∧ P (.da (.str (revS z))) ρ'
  | .list ds => P (.ow ds.reverse) ρ'
  | _ => False
theorem pr_rev {q : QD} {k : Nat} {p1 p2 p3 : Pos} (he : PV J X e q) : PR J X (.Subscript e (.Slice none none (some (.UnaryOp .USub (.Constant (.int 1) k p1) p2)) p3) pos) (qRev q) :=
  pe_mono (pe_rev he) fun σ H Q ⟨n, H0, ρ, P, R, w, k⟩ => ⟨n, H0, ρ, _, R, w, fun v H1 H01 d ρ1 R1 S1 hd w1 => by
    cases d with
    | str z => exact .inl ⟨z, hd.str, w1.1, k _ H1 H01 (.da (.str (revS z))) ρ1 R1 S1 (Dq.str _) w1.2⟩
    | list ds =>
      obtain ⟨a, xs, rfl, s1, m1⟩ := hd.lst R1.sub
      refine .inr ⟨a, xs, rfl, s1, fun p hp => k _ _ H01 (.ow ds.reverse) ρ1 (R1.laid hp) S1 ⟨p, xs.reverse, rfl, upd_same, dpa_rev m1, R1.h0 hp, R1.he0 hp, fun i es e => ?_⟩ w1⟩
      obtain ⟨b, ys, h1, h2, _⟩ := R1.sl i _ e
      intro z
      rw [h1] at z
      cases z
      rw [hp] at h2
      cases h2
    | _ => exact w1.elim⟩
/-- s.index(x) of texts, x there -/
def qSindex (qa qb : QD) : QD := fun ρ P => qa ρ fun d ρ1 => ∃ a, d = .str a ∧ qb ρ1 fun e ρ2 => ∃ b i rest, e = .str b ∧ Builtin.Str.occurrences a b 0 a.length 1 = i :: rest ∧ P (.int (i : Nat)) ρ2
theorem pd_sindex {qa qb : QD} {o : Expr} {apos : Pos} (ho : PD J X o qa) (ha : PD J X e qb)
    (hbase : attributeBase o "index" X.env (eval o X.env) = eval o X.env := by rfl)
    (hfew : ((backTo pos (starEach [e] X.env)).all (fun x => !x.1) && (backToKw pos (keywordEach [] X.env)).all (fun x => x.1.isSome) && decide ([e].length + ([] : List Keyword).length + (if ([] : List Keyword).isEmpty then 0 else 1) < 30)) = true := by rfl)
    (hline : (apos.endLine == pos.line) = true := by rfl) (hs : starEach [e] X.env = (false, eval e X.env) :: starEach [] X.env := by rfl) (hplain : (backTo pos (starEach [] X.env)).any (·.1) = false := by rfl) :
    PD J X (.Call (.Attribute o "index" apos) [e] [] pos) (qSindex qa qb) :=
  pe_mono (pe_bm PySem.F.plainAttrs_str PySem.F.slot_str_index PySem.F.type_str_index mt_sindex ho (pa_cons ha pa_nil hs) hbase hfew hline hs hplain) fun σ H Q ⟨n, H0, ρ, P, R, w, k⟩ =>
    ⟨n, H0, ρ, _, R, w, fun v H1 H01 d ρ1 R1 S1 hd ⟨a, ea, w1⟩ => by
      subst ea
      have ev := dp_str hd
      subst ev
      exact ⟨rfl, n, H01, ρ1, _, R1, w1, fun u H2 H02 f ρ2 R2 S2 hf ⟨b, i, rest, eb, ho, hp⟩ => by
        subst eb
        have eu := dp_str hf
        subst eu
        exact ⟨a, b, i, rest, rfl, rfl, ho, k _ H2 H02 _ ρ2 R2 (S1.trans S2) (Dq.int _) hp⟩⟩⟩
theorem cl_gcd : DclOk J X (.builtin "math.gcd") cGcd := ⟨_, cr_gcd, fun n σ H H0 ρ vs ds P Q R hp w k => by
  match ds, w with
  | [.int i, .int j], w =>
    obtain ⟨u, v, rfl, h, h'⟩ := paired2 hp
    have e := h.int
    have e' := h'.int
    subst e; subst e'
    exact ⟨i, j, rfl, here k R (Dq.int _) w⟩⟩
theorem pr_callF {id : String} {g : DCl} {m : Nat} {qa : QL} {x : Str} {p : Pos} (hc : DclOk J X (.builtin id) g) (hg : Gl X x) (hm : X.mg x = some (.builtin id)) (ha : PLV J X (e :: es) m qa) (hdb : (x == ("__debug__" : Str)) = false := by decide)
    (he : starEach (e :: es) X.env = (false, eval e X.env) :: starEach es X.env := by rfl) (hpl : (backTo pos (starEach es X.env)).any (·.1) = false := by rfl) : PR J X (.Call (.Name x p) (e :: es) [] pos) (qCl g qa) := by
  obtain ⟨r, h1, h2⟩ := hc
  exact pe_mono (pe_callBfun h1 hg hm ha hdb he hpl) (cl_mono h2)
end
end Zd

set_option Elab.async false
set_option linter.all false
set_option maxRecDepth 100000
set_option maxHeartbeats 4000000
namespace Zd
open PySem PySem.Spec PyProof.Rows L2
/-! ### written displays of dicts: a value taken out at once -/
def vOf : PyData → V
  | .bool b => .bl b
  | .int i => .int i
  | .str x => .str x
  | _ => .non
theorem vOf_ok {K : PySem.W.Frag} {H : Hp} : ∀ {d : PyData}, flatD d = true → Dq K H (vOf d) d
  | .none, _ => .non
  | .bool _, _ => .bl _
  | .int _, _ => .int _
  | .str _, _ => .str _
abbrev Kd := List (L2.Key × PyData)
def Kd.vs (t : Kd) : List (L2.Key × V) := t.map fun p => (p.1, vOf p.2)
def Kd.at (t : Kd) (k : L2.Key) : Option PyData := match t with
  | [] => none
  | (k0, d) :: r => if k = k0 then some d else Kd.at r k
theorem kd_at (k : L2.Key) : ∀ (t : Kd), valV t.vs k = (t.at k).map vOf
  | [] => rfl
  | (k0, d) :: r => by
    have ih := kd_at k r
    unfold valV at ih ⊢
    show (List.find? (fun kv => decide (kv.1 = k)) ((k0, vOf d) :: Kd.vs r)).map (·.2) = _
    rw [List.find?_cons]
    unfold Kd.at
    by_cases q : k = k0
    · subst q
      simp
    · have q' : ¬ k0 = k := fun z => q z.symm
      rw [if_neg q]
      simp only [q', decide_false]
      exact ih
def tCd (t : Kd) : TE := fun _ H Q => ∀ p, H p = none → Q (.ref p) (upd H p (.dK t.vs))
theorem pairs_cd (t : Kd) : ∀ (σ : L2.St) (H : Hp) (Q : List (V × V) → Hp → Prop), Q (t.vs.map fun kv => (kV kv.1, kv.2)) H → tPairs (t.map fun p => (tC (kV p.1), tC (vOf p.2))) σ H Q := by
  induction t with
  | nil => intro σ H Q h; exact h
  | cons p r ih =>
    intro σ H Q h
    show tPairs (r.map fun p => (tC (kV p.1), tC (vOf p.2))) σ H fun ps H3 => Q ((kV p.1, vOf p.2) :: ps) H3
    exact ih σ H _ h
theorem upd_upd {H : Hp} {p : Addr} {o u : HO} : upd (upd H p o) p u = upd H p u := by
  funext a
  by_cases q : a = p
  · subst q; rw [upd_same, upd_same]
  · rw [upd_ne q, upd_ne q, upd_ne q]
section
variable {X : Cx} {J : Jr} {e f a b c : Expr} {es : List Expr} {pos : Pos}
theorem pe_cd {t : Kd} {keys : List (Option Expr)} {values : List Expr} (h : PPs X pos keys values (t.map fun p => (tC (kV p.1), tC (vOf p.2)))) (hm : mergeK [] t.vs = t.vs) (h15 : decide (t.length ≤ 15) = true) (hall : keys.all (·.isSome) = true := by rfl) (hl : keys.length = values.length := by rfl) (h0 : keys ≠ [] := by intro z; cases z)
    (hk15 : decide (keys.length ≤ 15) = true := by rfl) : PE X (.Dict keys values pos) (tCd t) :=
  pe_mono (pe_disp h hall hl h0 (of_decide_eq_true hk15)) fun σ H Q q p hp => pairs_cd t σ _ _ ⟨upd_same, t.vs, rfl, by unfold Kd.vs; rw [List.length_map]; exact of_decide_eq_true h15, by rw [hm, upd_upd]; exact q p hp⟩
def keyD : D → Option L2.Key
  | .int i => some (.inl i)
  | .str x => some (.inr x)
  | _ => none
theorem keyD_v {K : PySem.W.Frag} {H : Hp} {v : V} {d : D} {k : L2.Key} (h : Dq K H v d) (e : keyD d = some k) : v = kV k := by
  cases d with
  | int i => cases e; exact dp_int h
  | str x => cases e; exact dp_str h
  | _ => cases e
/-- {..}[e] -/
def qCget (t : Kd) (qe : QD) : QR := fun ρ P => qe ρ fun d ρ' => ∃ k dv, keyD d = some k ∧ t.at k = some dv ∧ flatD dv = true ∧ P (.da dv) ρ'
theorem pr_cget {t : Kd} {keys : List (Option Expr)} {values : List Expr} {p2 : Pos} {qe : QD} (hu : X.A.units + 64 < cLine) (h : PPs X p2 keys values (t.map fun p => (tC (kV p.1), tC (vOf p.2)))) (hm : mergeK [] t.vs = t.vs) (h15 : decide (t.length ≤ 15) = true) (he : PD J X e qe) (hs : NoSl e)
    (hall : keys.all (·.isSome) = true := by rfl) (hl : keys.length = values.length := by rfl) (h0 : keys ≠ [] := by intro z; cases z) (hk15 : decide (keys.length ≤ 15) = true := by rfl) : PR J X (.Subscript (.Dict keys values p2) e pos) (qCget t qe) :=
  pe_mono (pe_dget (by omega) (pe_cd h hm h15 hall hl h0 hk15) he hs) fun σ H Q ⟨n, H0, ρ, P, R, w, k⟩ p hp => by
    have hno : ∀ (i : Nat) (es : List D), ρ[i]? = some (Sl.ow es) → σ[i]? ≠ some (some (V.ref p)) := fun i es e z => by
      obtain ⟨b, ys, h1, h2, _⟩ := R.sl i _ e
      rw [h1] at z
      cases z
      rw [hp] at h2
      cases h2
    have na : p ∉ n.as := fun q => R.hej (R.jdom p q).2 hp
    refine ⟨n.keep p (.dK t.vs), H0, ρ, _, (R.laid hp).keep upd_same (R.h0 hp) (R.he0 hp) hno, w, fun v H1 H01 d ρ1 R1 S1 hd ⟨kk, dv, e1, e2, e3, hP⟩ => ?_⟩
    have hk := Rp.kept na R1
    have hv := keyD_v hd e1
    subst hv
    refine ⟨p, vOf dv, rfl, ?_, k _ H1 H01 (.da dv) ρ1 (R1.unkeep (R.he0 hp) R.jdom) S1 (vOf_ok e3) hP⟩
    have g := DGet.k (k := kk) hk
    rw [kd_at, e2] at g
    exact g
/-- {..}.get(e, x), x written -/
def qCget2 (t : Kd) (qe : QD) (x : D) : QR := fun ρ P => qe ρ fun d ρ' => ∃ k, keyD d = some k ∧ flatD ((t.at k).getD x) = true ∧ P (.da ((t.at k).getD x)) ρ'
theorem pr_cget2 {t : Kd} {x : D} {keys : List (Option Expr)} {values : List Expr} {p2 apos : Pos} {qe : QD} (hu : X.A.units + 64 < cLine) (h : PPs X p2 keys values (t.map fun p => (tC (kV p.1), tC (vOf p.2)))) (hm : mergeK [] t.vs = t.vs) (h15 : decide (t.length ≤ 15) = true) (he : PD J X e qe) (hf : PE X f (tC (vOf x))) (m : M2 X (.Dict keys values p2) "get" apos e f pos)
    (hall : keys.all (·.isSome) = true := by rfl) (hl : keys.length = values.length := by rfl) (h0 : keys ≠ [] := by intro z; cases z) (hk15 : decide (keys.length ≤ 15) = true := by rfl) : PR J X (.Call (.Attribute (.Dict keys values p2) "get" apos) [e, f] [] pos) (qCget2 t qe x) :=
  pe_mono (pe_dget2 (by omega) (pe_cd h hm h15 hall hl h0 hk15) he hf m) fun σ H Q ⟨n, H0, ρ, P, R, w, k⟩ p hp => by
    have hno : ∀ (i : Nat) (es : List D), ρ[i]? = some (Sl.ow es) → σ[i]? ≠ some (some (V.ref p)) := fun i es e z => by
      obtain ⟨b, ys, h1, h2, _⟩ := R.sl i _ e
      rw [h1] at z
      cases z
      rw [hp] at h2
      cases h2
    have na : p ∉ n.as := fun q => R.hej (R.jdom p q).2 hp
    refine ⟨p, rfl, .inl ⟨t.vs, .inl upd_same⟩, n.keep p (.dK t.vs), H0, ρ, _, (R.laid hp).keep upd_same (R.h0 hp) (R.he0 hp) hno, w, fun v H1 H01 d ρ1 R1 S1 hd ⟨kk, e1, e3, hP⟩ => ?_⟩
    have hk := Rp.kept na R1
    have hv := keyD_v hd e1
    subst hv
    refine ⟨_, DGet.k (k := kk) hk, ?_⟩
    rw [kd_at]
    have e : ((t.at kk).map vOf).getD (vOf x) = vOf ((t.at kk).getD x) := by cases t.at kk <;> rfl
    rw [e]
    exact k _ H1 H01 (.da ((t.at kk).getD x)) ρ1 (R1.unkeep (R.he0 hp) R.jdom) S1 (vOf_ok e3) hP
end
end Zd

set_option Elab.async false
set_option linter.all false
set_option maxRecDepth 100000
set_option maxHeartbeats 4000000
namespace Zd
open PySem PySem.Spec PyProof.Rows L2
def EndD.thn (E : EndD) (P : List Sl → Prop) : EndD := { E with nx := P }
theorem thn_nx (E : EndD) (P : List Sl → Prop) (ρ : List Sl) : (E.thn P).nx ρ = P ρ := rfl
theorem thn_rt (E : EndD) (P : List Sl → Prop) (r : Sl) (ρ : List Sl) : (E.thn P).rt r ρ = E.rt r ρ := rfl
theorem thn_bk (E : EndD) (P : List Sl → Prop) (ρ : List Sl) : (E.thn P).bk ρ = E.bk ρ := rfl
theorem thn_ct (E : EndD) (P : List Sl → Prop) (ρ : List Sl) : (E.thn P).ct ρ = E.ct ρ := rfl
/-! ### reading the meanings -/
theorem qRD_e (q : QD) (ρ : List Sl) (P : Sl → List Sl → Prop) : qRD q ρ P = (q ρ fun d ρ' => P (.da d) ρ') := rfl
theorem qDR_e (q : QR) (ρ : List Sl) (P : D → List Sl → Prop) : qDR q ρ P = (q ρ fun r ρ' => asD r fun d => P d ρ') := rfl
theorem qLook_e (i : Nat) (ρ : List Sl) (P : D → List Sl → Prop) : qLook i ρ P = (seeD ρ[i]? fun d => P d ρ) := rfl
theorem qVar_e (i : Nat) (ρ : List Sl) (P : D → List Sl → Prop) : qVar i ρ P = (seeD ρ[i]? fun d => P d (frz ρ i)) := rfl
theorem qMove_e (i : Nat) (ρ : List Sl) (P : Sl → List Sl → Prop) : qMove i ρ P = (match ρ[i]? with
  | some (.da d) => P (.da d) ρ
  | some (.ow ds) => P (.ow ds) (ρ.set i .un)
  | _ => False) := rfl
theorem qC_e (d : D) (ρ : List Sl) (P : D → List Sl → Prop) : qC d ρ P = (P d ρ) := rfl
theorem qBin_e (f : DOp) (qa qb : QD) (ρ : List Sl) (P : Sl → List Sl → Prop) : qBin f qa qb ρ P = (qa ρ fun d ρ1 => qb ρ1 fun e ρ2 => f d e fun s => P s ρ2) := rfl
theorem qBinN_e (f : DOp) (i : Nat) (qb : QD) (ρ : List Sl) (P : Sl → List Sl → Prop) : qBinN f i qb ρ P = (qb ρ fun e ρ2 => seeD ρ2[i]? fun d => f d e fun s => P s ρ2) := rfl
theorem qBinM_e (f : DOp) (i : Nat) (qb : QD) (ρ : List Sl) (P : Sl → List Sl → Prop) : qBinM f i qb ρ P = (known ρ i ∧ qBinN f i qb ρ P) := rfl
theorem qTst_e (q : QR) (ρ : List Sl) (P : Bool → List Sl → Prop) : qTst q ρ P = (q ρ fun r ρ' => isB r fun b => P b ρ') := rfl
theorem qTru_e (q : QD) (ρ : List Sl) (P : Bool → List Sl → Prop) : qTru q ρ P = (q ρ fun d ρ' => truP d fun b => P b ρ') := rfl
theorem qAnd_e (qa qb : QT) (ρ : List Sl) (P : Bool → List Sl → Prop) : qAnd qa qb ρ P = (qa ρ fun b ρ' => if b = true then qb ρ' P else P false ρ') := rfl
theorem qOr_e (qa qb : QT) (ρ : List Sl) (P : Bool → List Sl → Prop) : qOr qa qb ρ P = (qa ρ fun b ρ' => if b = true then P true ρ' else qb ρ' P) := rfl
theorem qNot_e (qa : QT) (ρ : List Sl) (P : Bool → List Sl → Prop) : qNot qa ρ P = (qa ρ fun b ρ' => P (!b) ρ') := rfl
theorem qAndV_e (qa qb : QD) (ρ : List Sl) (P : D → List Sl → Prop) : qAndV qa qb ρ P = (qa ρ fun d ρ' => ∃ c, d = .bool c ∧ if c = true then qb ρ' P else P (.bool false) ρ') := rfl
theorem qOrV_e (qa qb : QD) (ρ : List Sl) (P : D → List Sl → Prop) : qOrV qa qb ρ P = (qa ρ fun d ρ' => ∃ c, d = .bool c ∧ if c = true then P (.bool true) ρ' else qb ρ' P) := rfl
theorem qNotV_e (qa : QD) (ρ : List Sl) (P : D → List Sl → Prop) : qNotV qa ρ P = (qa ρ fun d ρ' => ∃ c, d = .bool c ∧ P (.bool (!c)) ρ') := rfl
theorem qIf_e (qt : QT) (qa qb : QR) (ρ : List Sl) (P : Sl → List Sl → Prop) : qIf qt qa qb ρ P = (qt ρ fun b ρ' => if b = true then qa ρ' P else qb ρ' P) := rfl
theorem qNil_e (ρ : List Sl) (P : List D → List Sl → Prop) : qNil  ρ P = (P [] ρ) := rfl
theorem qCons_e (qa : QD) (qr : QL) (ρ : List Sl) (P : List D → List Sl → Prop) : qCons qa qr ρ P = (qa ρ fun d ρ1 => qr ρ1 fun ds ρ2 => P (d :: ds) ρ2) := rfl
theorem qTup_e (q : QL) (ρ : List Sl) (P : D → List Sl → Prop) : qTup q ρ P = (q ρ fun ds ρ' => P (.tuple ds) ρ') := rfl
theorem qLst_e (q : QL) (ρ : List Sl) (P : Sl → List Sl → Prop) : qLst q ρ P = (q ρ fun ds ρ' => P (.ow ds) ρ') := rfl
theorem qNeg_e (q : QD) (ρ : List Sl) (P : D → List Sl → Prop) : qNeg q ρ P = (q ρ fun d ρ' => ∃ i, d = .int i ∧ P (.int (-i)) ρ') := rfl
theorem qO0_e (ρ : List Sl) (P : Option Int → List Sl → Prop) : qO0  ρ P = (P none ρ) := rfl
theorem qO1_e (q : QD) (ρ : List Sl) (P : Option Int → List Sl → Prop) : qO1 q ρ P = (q ρ fun d ρ' => ∃ i, d = .int i ∧ P (some i) ρ') := rfl
theorem qSl_e (qa : QD) (ql qh : QO) (ρ : List Sl) (P : Sl → List Sl → Prop) : qSl qa ql qh ρ P = (qa ρ fun d ρ1 => ql ρ1 fun lo ρ2 => qh ρ2 fun hi ρ3 => dSl d lo hi fun s => P s ρ3) := rfl
theorem qSlN_e (i : Nat) (ql qh : QO) (ρ : List Sl) (P : Sl → List Sl → Prop) : qSlN i ql qh ρ P = (known ρ i ∧ ql ρ fun lo ρ2 => qh ρ2 fun hi ρ3 => seeD ρ3[i]? fun d => dSl d lo hi fun s => P s ρ3) := rfl
theorem qCl_e (g : DCl) (qa : QL) (ρ : List Sl) (P : Sl → List Sl → Prop) : qCl g qa ρ P = (qa ρ fun ds ρ' => g ds fun s => P s ρ') := rfl
theorem qIsi_e (T : String) (q : QD) (ρ : List Sl) (P : D → List Sl → Prop) : qIsi T q ρ P = (q ρ fun d ρ' => ∃ r, kitB (tyD d) T = some r ∧ P (.bool r) ρ') := rfl
theorem qCall_e (pp : PPr) (qa : QA) (ρ : List Sl) (P : Sl → List Sl → Prop) : qCall pp qa ρ P = (qa ρ fun as ρ' => ∃ gs, resv ρ' as = some gs ∧ pp gs (hold P .mk ρ' as)) := rfl
theorem qaNil_e (ρ : List Sl) (P : List A → List Sl → Prop) : qaNil  ρ P = (P [] ρ) := rfl
theorem qaD_e (qa : QD) (qr : QA) (ρ : List Sl) (P : List A → List Sl → Prop) : qaD qa qr ρ P = (qa ρ fun d ρ1 => qr ρ1 fun as ρ2 => P (.d d :: as) ρ2) := rfl
theorem qaN_e (i : Nat) (qr : QA) (ρ : List Sl) (P : List A → List Sl → Prop) : qaN i qr ρ P = (given ρ i ∧ qr ρ fun as ρ2 => P (.n i :: as) ρ2) := rfl
theorem qApp_e (i : Nat) (qa : QD) (ρ : List Sl) (P : Sl → List Sl → Prop) : qApp i qa ρ P = ((∃ ds, ρ[i]? = some (.ow ds)) ∧ qa ρ fun d ρ' => match ρ'[i]? with
  | some (.ow ds) => ds.length < sizeLine ∧ P (.da .none) (ρ'.set i (.ow (ds ++ [d])))
  | _ => False) := rfl
theorem qExt_e (i : Nat) (qa : QR) (ρ : List Sl) (P : Sl → List Sl → Prop) : qExt i qa ρ P = ((∃ ds, ρ[i]? = some (.ow ds)) ∧ qa ρ fun r ρ' => match r with
  | .ow es => (match ρ'[i]? with
    | some (.ow ds) => ds.length + es.length ≤ sizeLine ∧ P (.da .none) (ρ'.set i (.ow (ds ++ es)))
    | _ => False)
  | _ => False) := rfl
theorem qPop_e (i : Nat) (ρ : List Sl) (P : Sl → List Sl → Prop) : qPop i ρ P = (match ρ[i]? with
  | some (.ow ds) => ∃ d, ds.getLast? = some d ∧ P (.da d) (ρ.set i (.ow ds.dropLast))
  | _ => False) := rfl
theorem qJoin_e (qo qe : QD) (ρ : List Sl) (P : D → List Sl → Prop) : qJoin qo qe ρ P = (qo ρ fun d ρ1 => ∃ a, d = .str a ∧ qe ρ1 fun e ρ2 => ∃ ds ys, rowD e = some ds ∧ strsD ds = some ys ∧ (ys.map (·.length)).sum + ys.length * a.length ≤ 16777216 ∧ P (.str (Txt.join a ys)) ρ2) := rfl
theorem qItD_e (q : QD) (ρ : List Sl) (P : List D → List Sl → Prop) : qItD q ρ P = (q ρ fun d ρ' => ∃ ds, itemsD d = some ds ∧ P ds ρ') := rfl
theorem qRng1_e (q : QL) (ρ : List Sl) (P : List D → List Sl → Prop) : qRng1 q ρ P = (q ρ fun ds ρ' => ∃ j, ds = [.int j] ∧ j < 2 ^ 62 ∧ -(2 ^ 62) ≤ j ∧ P (rangeD 0 j.toNat) ρ') := rfl
theorem qRng2_e (q : QL) (ρ : List Sl) (P : List D → List Sl → Prop) : qRng2 q ρ P = (q ρ fun ds ρ' => ∃ i j, ds = [.int i, .int j] ∧ (-(2 ^ 62) ≤ i ∧ i < 2 ^ 62 ∧ -(2 ^ 62) ≤ j ∧ j < 2 ^ 62) ∧ P (rangeD i (j - i).toNat) ρ') := rfl
theorem qgName_e (i : Nat) (d : D) (ρ : List Sl) (P : List Sl → Prop) : qgName i d ρ P = (P (ρ.set i (.da d))) := rfl
theorem qgNil_e (ds : List D) (ρ : List Sl) (P : List Sl → Prop) : qgNil  ds ρ P = (ds = [] ∧ P ρ) := rfl
theorem qgCons_e (q : QG) (r : QGs) (ds : List D) (ρ : List Sl) (P : List Sl → Prop) : qgCons q r ds ρ P = (match ds with
  | d :: ds => q d ρ fun ρ' => r ds ρ' P
  | [] => False) := rfl
theorem qgTup_e (m : Nat) (r : QGs) (d : D) (ρ : List Sl) (P : List Sl → Prop) : qgTup m r d ρ P = (match d with
  | .tuple ds => ds.length = m ∧ r ds ρ P
  | _ => False) := rfl
theorem qNext_e (E : EndD) (ρ : List Sl) : qNext  E ρ = (E.nx ρ) := rfl
theorem qSeq_e (q r : QS) (E : EndD) (ρ : List Sl) : qSeq q r E ρ = (q (E.thn (r E)) ρ) := rfl
theorem qBrk_e (E : EndD) (ρ : List Sl) : qBrk  E ρ = (E.bk ρ) := rfl
theorem qCnt_e (E : EndD) (ρ : List Sl) : qCnt  E ρ = (E.ct ρ) := rfl
theorem qDrop_e (q : QR) (E : EndD) (ρ : List Sl) : qDrop q E ρ = (q ρ fun _ ρ' => E.nx ρ') := rfl
theorem qRet_e (q : QR) (E : EndD) (ρ : List Sl) : qRet q E ρ = (q ρ fun r ρ' => E.rt r ρ') := rfl
theorem qRetN_e (E : EndD) (ρ : List Sl) : qRetN  E ρ = (E.rt (.da .none) ρ) := rfl
theorem qIfS_e (qc : QT) (q r : QS) (E : EndD) (ρ : List Sl) : qIfS qc q r E ρ = (qc ρ fun b ρ' => if b = true then q E ρ' else r E ρ') := rfl
theorem qSet_e (i : Nat) (q : QR) (E : EndD) (ρ : List Sl) : qSet i q E ρ = (q ρ fun r ρ' => E.nx (ρ'.set i r)) := rfl
theorem qAsg_e (q : QD) (g : QG) (E : EndD) (ρ : List Sl) : qAsg q g E ρ = (q ρ fun d ρ' => g d ρ' E.nx) := rfl
theorem qPar_e (i j : Nat) (q : QL) (E : EndD) (ρ : List Sl) : qPar i j q E ρ = (q ρ fun ds ρ' => match ds with
  | [d, e] => E.nx ((ρ'.set i (.da d)).set j (.da e))
  | _ => False) := rfl
theorem qAugI_e (f : Int → Int → Int) (i : Nat) (q : QD) (E : EndD) (ρ : List Sl) : qAugI f i q E ρ = (∃ x, ρ[i]? = some (.da (.int x)) ∧ q ρ fun d ρ' => ∃ y, d = .int y ∧ E.nx (ρ'.set i (.da (.int (f x y))))) := rfl
theorem qFor_e (qi : QL) (g : QG) (q : QS) (E : EndD) (ρ : List Sl) : qFor qi g q E ρ = (qi ρ fun ds ρ' => loopD g q E ds ρ') := rfl
theorem qWhile_e (qc : QT) (q : QS) (E : EndD) (ρ : List Sl) : qWhile qc q E ρ = (∃ W : Nat → List Sl → Prop, (∃ m, W m ρ) ∧ ∀ m ρ, W m ρ → qc ρ fun b ρ' => if b = true then q { nx := fun ρ => ∃ m', m' < m ∧ W m' ρ, rt := E.rt, bk := E.nx, ct := fun ρ => ∃ m', m' < m ∧ W m' ρ } ρ' else E.nx ρ') := rfl
theorem qYes_e (ρ : List Sl) (P : Bool → List Sl → Prop) : qYes  ρ P = (P true ρ) := rfl
theorem qLc_e (qi : QL) (g : QG) (qt : QT) (q : QD) (vs : List Nat) (ρ : List Sl) (P : Sl → List Sl → Prop) : qLc qi g qt q vs ρ P = (qi ρ fun items ρ1 => clean ρ1 vs ∧ lcD g qt q vs ρ1 (fun acc => P (.ow acc) ρ1) items []) := rfl
theorem qReord_e (idx : List Nat) (m : Nat) (q : QA) (ρ : List Sl) (P : List A → List Sl → Prop) : qReord idx m q ρ P = (q ρ fun as ρ' => as.length = m ∧ P (reord (.d .none) idx as) ρ') := rfl
theorem qPut_e (i : Nat) (qe qi : QD) (E : EndD) (ρ : List Sl) : qPut i qe qi E ρ = (qe ρ fun d ρ1 => isOw ρ1[i]? ∧ qi ρ1 fun k ρ2 => ∃ kk, k = .int kk ∧ putOw ρ2[i]? fun ds => ∃ j, ixN ds.length kk = some j ∧ E.nx (ρ2.set i (.ow (ds.set j d)))) := rfl
theorem qBits_e (q : QD) (ρ : List Sl) (P : D → List Sl → Prop) : qBits q ρ P = (q ρ fun d ρ' => ∃ i, d = .int i ∧ P (.int (Builtin.Int.intBits i)) ρ') := rfl
theorem qJd_e (i k : Nat) (ρ : List Sl) (P : Sl → List Sl → Prop) : qJd i k ρ P = (match ρ[i]? with
  | some (.jo c) => (match c.es[k]? with
    | some (.d d) => c.top = none ∧ flatD d = true ∧ P (.da d) ρ
    | _ => False)
  | _ => False) := rfl
theorem qJput_e (i k : Nat) (qe : QD) (E : EndD) (ρ : List Sl) : qJput i k qe E ρ = (qe ρ fun d ρ1 => jPart ρ1 i k fun c e => (∃ d0, e = .d d0) ∧ isT d = true ∧ E.nx (ρ1.set i (.jo (c.put k (.d d))))) := rfl
theorem qJlen_e (i k : Nat) (ρ : List Sl) (P : Sl → List Sl → Prop) : qJlen i k ρ P = (jPart ρ i k fun _ e => ∃ ds, e = .l ds ∧ P (.da (.int ds.length)) ρ) := rfl
theorem qJapp_e (i k : Nat) (qe : QD) (ρ : List Sl) (P : Sl → List Sl → Prop) : qJapp i k qe ρ P = (jPart ρ i k fun c e => ∃ ds, e = .l ds ∧ qe ρ fun d ρ1 => ρ1[i]? = some (.jo c) ∧ isT d = true ∧ ds.length < sizeLine ∧ P (.da .none) (ρ1.set i (.jo (c.put k (.l (ds ++ [d])))))) := rfl
theorem qJpop_e (i k : Nat) (ρ : List Sl) (P : Sl → List Sl → Prop) : qJpop i k ρ P = (jPart ρ i k fun c e => ∃ ds d, e = .l ds ∧ ds.getLast? = some d ∧ flatD d = true ∧ P (.da d) (ρ.set i (.jo (c.put k (.l ds.dropLast))))) := rfl
theorem qJix_e (i k : Nat) (qe : QD) (ρ : List Sl) (P : Sl → List Sl → Prop) : qJix i k qe ρ P = (jPart ρ i k fun c e => ∃ ds, e = .l ds ∧ qe ρ fun d ρ1 => ρ1[i]? = some (.jo c) ∧ ∃ z x, d = .int z ∧ atI ds z = some x ∧ flatD x = true ∧ P (.da x) ρ1) := rfl
theorem qJput2_e (i k : Nat) (qe qi : QD) (E : EndD) (ρ : List Sl) : qJput2 i k qe qi E ρ = (qe ρ fun d ρ1 => jPart ρ1 i k fun c e => ∃ ds, e = .l ds ∧ qi ρ1 fun kd ρ2 => ρ2[i]? = some (.jo c) ∧ ∃ z jj, kd = .int z ∧ ixN ds.length z = some jj ∧ isT d = true ∧ E.nx (ρ2.set i (.jo (c.put k (.l (ds.set jj d)))))) := rfl
theorem qnNil_e (ρ : List Sl) (P : List Nd → List Sl → Prop) : qnNil  ρ P = (P [] ρ) := rfl
theorem qnCons_e (qe : QR) (qr : QN) (ρ : List Sl) (P : List Nd → List Sl → Prop) : qnCons qe qr ρ P = (qe ρ fun r ρ1 => qr ρ1 fun es ρ2 => match r with
  | .da d => isT d = true ∧ P (.d d :: es) ρ2
  | .ow ds => isTs ds = true ∧ P (.l ds :: es) ρ2
  | _ => False) := rfl
theorem qmSeq_e (q : QS) (r : QM) (R : Jc → Prop) (ρ : List Sl) : qmSeq q r R ρ = (q (EndM (r R)) ρ) := rfl
theorem qmRet_e (q : QN) (R : Jc → Prop) (ρ : List Sl) : qmRet q R ρ = (q ρ fun es _ => R ⟨none, es⟩) := rfl
theorem qmDisp_e (i : Nat) (q : QN) (r : QM) (R : Jc → Prop) (ρ : List Sl) : qmDisp i q r R ρ = (q ρ fun es ρ' => r R (ρ'.set i (.jo ⟨none, es⟩))) := rfl
theorem qoRet_e (i : Nat) (R : Jc → Prop) (ρ : List Sl) : qoRet i R ρ = (∃ c, ρ[i]? = some (.jo c) ∧ R c) := rfl
theorem qMake_e (i : Nat) (good : Jc → Prop) (pp : PPm) (qa : QA) (q : QS) (E : EndD) (ρ : List Sl) : qMake i good pp qa q E ρ = (qa ρ fun as ρ' => ∃ gs, resv ρ' as = some gs ∧ pp gs fun c => good c ∧ q E ((frzs ρ' as).set i .ja)) := rfl
theorem qKget_e (t : Tb) (qe : QD) (ρ : List Sl) (P : D → List Sl → Prop) : qKget t qe ρ P = (qe ρ fun d ρ' => ∃ z dv, d = .str z ∧ t.at z = some dv ∧ P dv ρ') := rfl
theorem qKin_e (t : Tb) (g : Bool → Bool) (qe : QD) (ρ : List Sl) (P : Sl → List Sl → Prop) : qKin t g qe ρ P = (qe ρ fun d ρ' => ∃ z, d = .str z ∧ P (.da (.bool (g (t.at z).isSome))) ρ') := rfl
theorem qRev_e (q : QD) (ρ : List Sl) (P : Sl → List Sl → Prop) : qRev q ρ P = (q ρ fun d ρ' => match d with
  | .str z => z.length ≤ sizeLine ∧ P (.da (.str (revS z))) ρ'
  | .list ds => P (.ow ds.reverse) ρ'
  | _ => False) := rfl
theorem qSindex_e (qa qb : QD) (ρ : List Sl) (P : D → List Sl → Prop) : qSindex qa qb ρ P = (qa ρ fun d ρ1 => ∃ a, d = .str a ∧ qb ρ1 fun e ρ2 => ∃ b i rest, e = .str b ∧ Builtin.Str.occurrences a b 0 a.length 1 = i :: rest ∧ P (.int (i : Nat)) ρ2) := rfl
theorem qCget_e (t : Kd) (qe : QD) (ρ : List Sl) (P : Sl → List Sl → Prop) : qCget t qe ρ P = (qe ρ fun d ρ' => ∃ k dv, keyD d = some k ∧ t.at k = some dv ∧ flatD dv = true ∧ P (.da dv) ρ') := rfl
theorem qCget2_e (t : Kd) (qe : QD) (x : D) (ρ : List Sl) (P : Sl → List Sl → Prop) : qCget2 t qe x ρ P = (qe ρ fun d ρ' => ∃ k, keyD d = some k ∧ flatD ((t.at k).getD x) = true ∧ P (.da ((t.at k).getD x)) ρ') := rfl

theorem atI_0 {α : Type} (x : α) (r : List α) : atI (x :: r) 0 = some x := by
  unfold atI ixN
  rw [if_pos (Int.le_refl 0), if_pos (by rw [List.length_cons]; omega)]
  rfl
theorem atI_1 {α : Type} (x y : α) (r : List α) : atI (x :: y :: r) 1 = some y := by
  unfold atI ixN
  rw [if_pos (by omega), if_pos (by rw [List.length_cons, List.length_cons]; omega)]
  rfl
theorem atI_2 {α : Type} (x y z : α) (r : List α) : atI (x :: y :: z :: r) 2 = some z := by
  unfold atI ixN
  rw [if_pos (by omega), if_pos (by rw [List.length_cons, List.length_cons, List.length_cons]; omega)]
  rfl
theorem atI_of {α : Type} {xs : List α} {i : Int} (h0 : 0 ≤ i) (h : i < xs.length) : ∃ x, atI xs i = some x ∧ x ∈ xs ∧ xs[i.toNat]? = some x := by
  unfold atI ixN
  rw [if_pos h0, if_pos h]
  have l : i.toNat < xs.length := by omega
  exact ⟨xs[i.toNat], List.getElem?_eq_getElem l, List.getElem_mem l, List.getElem?_eq_getElem l⟩
theorem ixN_lit {n : Nat} {i : Int} (h0 : 0 ≤ i) (h : i < n) : ixN n i = some i.toNat := by
  unfold ixN
  rw [if_pos h0, if_pos h]
theorem while_of {qc : QT} {q : QS} {E : EndD} {ρ : List Sl} (W : Nat → List Sl → Prop) (m : Nat) (h0 : W m ρ)
    (hs : ∀ m ρ, W m ρ → qc ρ fun b ρ' => if b = true then q { nx := fun ρ => ∃ m', m' < m ∧ W m' ρ, rt := E.rt, bk := E.nx, ct := fun ρ => ∃ m', m' < m ∧ W m' ρ } ρ' else E.nx ρ') : qWhile qc q E ρ := ⟨W, ⟨m, h0⟩, hs⟩
theorem loop_of {g : QG} {q : QS} {E : EndD} (I : List D → List Sl → Prop) (h0 : ∀ ρ, I [] ρ → E.nx ρ)
    (hs : ∀ d ds ρ, I (d :: ds) ρ → (∀ ρ, I ds ρ → loopD g q E ds ρ) → g d ρ fun ρ' => q { nx := loopD g q E ds, rt := E.rt, bk := E.nx, ct := loopD g q E ds } ρ') : ∀ ds ρ, I ds ρ → loopD g q E ds ρ
  | [], ρ, h => h0 ρ h
  | d :: ds, ρ, h => hs d ds ρ h (loop_of I h0 hs ds)
theorem range_of {g : QG} {q : QS} {E : EndD} (I : Int → Nat → List Sl → Prop) (h0 : ∀ lo ρ, I lo 0 ρ → E.nx ρ)
    (hs : ∀ lo n ρ, I lo (n + 1) ρ → (∀ ρ, I (lo + 1) n ρ → loopD g q E (rangeD (lo + 1) n) ρ) → g (.int lo) ρ fun ρ' => q { nx := loopD g q E (rangeD (lo + 1) n), rt := E.rt, bk := E.nx, ct := loopD g q E (rangeD (lo + 1) n) } ρ') : ∀ n lo ρ, I lo n ρ → loopD g q E (rangeD lo n) ρ
  | 0, lo, ρ, h => h0 lo ρ h
  | n + 1, lo, ρ, h => hs lo n ρ h (range_of I h0 hs n (lo + 1))
theorem lc_of {g : QG} {qt : QT} {q : QD} {vs : List Nat} {ρ : List Sl} {F : List D → Prop} (I : List D → List D → Prop) (h0 : ∀ acc, I [] acc → F acc)
    (hs : ∀ d ds acc, I (d :: ds) acc → (∀ acc, I ds acc → lcD g qt q vs ρ F ds acc) → g d (wipeD ρ vs) fun ρ1 => qt ρ1 fun b ρ2 => if b = true then q ρ2 fun x ρ3 => wipeD ρ3 vs = wipeD ρ vs ∧ acc.length < sizeLine ∧ lcD g qt q vs ρ F ds (acc ++ [x]) else wipeD ρ2 vs = wipeD ρ vs ∧ lcD g qt q vs ρ F ds acc) :
    ∀ ds acc, I ds acc → lcD g qt q vs ρ F ds acc
  | [], acc, h => h0 acc h
  | d :: ds, acc, h => hs d ds acc h (lc_of I h0 hs ds)
theorem abs_nat (p : Int) : (if p < 0 then -p else p) = (p.natAbs : Int) := by split <;> omega
theorem kb_bool_bool : kitB "bool" "bool" = some true := by rfl
theorem kb_bool_int : kitB "bool" "int" = some true := by rfl
theorem kb_bool_str : kitB "bool" "str" = some false := by rfl
theorem kb_bool_tuple : kitB "bool" "tuple" = some false := by rfl
theorem kb_bool_list : kitB "bool" "list" = some false := by rfl
theorem kb_int_bool : kitB "int" "bool" = some false := by rfl
theorem kb_int_int : kitB "int" "int" = some true := by rfl
theorem kb_int_str : kitB "int" "str" = some false := by rfl
theorem kb_int_tuple : kitB "int" "tuple" = some false := by rfl
theorem kb_int_list : kitB "int" "list" = some false := by rfl
theorem kb_str_bool : kitB "str" "bool" = some false := by rfl
theorem kb_str_int : kitB "str" "int" = some false := by rfl
theorem kb_str_str : kitB "str" "str" = some true := by rfl
theorem kb_str_tuple : kitB "str" "tuple" = some false := by rfl
theorem kb_str_list : kitB "str" "list" = some false := by rfl
theorem kb_tuple_bool : kitB "tuple" "bool" = some false := by rfl
theorem kb_tuple_int : kitB "tuple" "int" = some false := by rfl
theorem kb_tuple_str : kitB "tuple" "str" = some false := by rfl
theorem kb_tuple_tuple : kitB "tuple" "tuple" = some true := by rfl
theorem kb_tuple_list : kitB "tuple" "list" = some false := by rfl
theorem kb_list_bool : kitB "list" "bool" = some false := by rfl
theorem kb_list_int : kitB "list" "int" = some false := by rfl
theorem kb_list_str : kitB "list" "str" = some false := by rfl
theorem kb_list_tuple : kitB "list" "tuple" = some false := by rfl
theorem kb_list_list : kitB "list" "list" = some true := by rfl
theorem kb_NoneType_bool : kitB "NoneType" "bool" = some false := by rfl
theorem kb_NoneType_int : kitB "NoneType" "int" = some false := by rfl
theorem kb_NoneType_str : kitB "NoneType" "str" = some false := by rfl
theorem kb_NoneType_tuple : kitB "NoneType" "tuple" = some false := by rfl
theorem kb_NoneType_list : kitB "NoneType" "list" = some false := by rfl
theorem loopD_nil (g : QG) (q : QS) (E : EndD) (ρ : List Sl) : loopD g q E [] ρ = E.nx ρ := rfl
theorem loopD_cons (g : QG) (q : QS) (E : EndD) (d : D) (ds : List D) (ρ : List Sl) : loopD g q E (d :: ds) ρ = g d ρ fun ρ' => q { nx := loopD g q E ds, rt := E.rt, bk := E.nx, ct := loopD g q E ds } ρ' := rfl
theorem lcD_nil (g : QG) (qt : QT) (q : QD) (vs : List Nat) (ρ : List Sl) (F : List D → Prop) (acc : List D) : lcD g qt q vs ρ F [] acc = F acc := rfl
theorem lcD_cons (g : QG) (qt : QT) (q : QD) (vs : List Nat) (ρ : List Sl) (F : List D → Prop) (d : D) (ds acc : List D) : lcD g qt q vs ρ F (d :: ds) acc = g d (wipeD ρ vs) fun ρ1 => qt ρ1 fun b ρ2 => if b = true then q ρ2 fun x ρ3 => wipeD ρ3 vs = wipeD ρ vs ∧ acc.length < sizeLine ∧ lcD g qt q vs ρ F ds (acc ++ [x]) else wipeD ρ2 vs = wipeD ρ vs ∧ lcD g qt q vs ρ F ds acc := rfl
theorem ixl_1_0 : ixN 1 0 = some 0 := by rfl
theorem ixl_2_0 : ixN 2 0 = some 0 := by rfl
theorem ixl_2_1 : ixN 2 1 = some 1 := by rfl
theorem ixl_3_0 : ixN 3 0 = some 0 := by rfl
theorem ixl_3_1 : ixN 3 1 = some 1 := by rfl
theorem ixl_3_2 : ixN 3 2 = some 2 := by rfl
theorem ixl_4_0 : ixN 4 0 = some 0 := by rfl
theorem ixl_4_1 : ixN 4 1 = some 1 := by rfl
theorem ixl_4_2 : ixN 4 2 = some 2 := by rfl
theorem ixl_4_3 : ixN 4 3 = some 3 := by rfl
theorem ixl_5_0 : ixN 5 0 = some 0 := by rfl
theorem ixl_5_1 : ixN 5 1 = some 1 := by rfl
theorem ixl_5_2 : ixN 5 2 = some 2 := by rfl
theorem ixl_5_3 : ixN 5 3 = some 3 := by rfl
theorem ixl_5_4 : ixN 5 4 = some 4 := by rfl
theorem ixl_6_0 : ixN 6 0 = some 0 := by rfl
theorem ixl_6_1 : ixN 6 1 = some 1 := by rfl
theorem ixl_6_2 : ixN 6 2 = some 2 := by rfl
theorem ixl_6_3 : ixN 6 3 = some 3 := by rfl
theorem ixl_6_4 : ixN 6 4 = some 4 := by rfl
theorem ixl_6_5 : ixN 6 5 = some 5 := by rfl
end Zd

/-! The mathematics of turns: words over s, w, v and their matrices. -/
set_option linter.all false
namespace K03
inductive Lt where
  | s | w | v
deriving DecidableEq
structure Mt where
  a : Int
  b : Int
  c : Int
  d : Int
deriving DecidableEq
/-- one letter behind a matrix -/
def ap (m : Mt) : Lt → Mt
  | .s => ⟨-m.c, -m.d, m.a, m.b⟩
  | .w => ⟨-m.c, -m.d, m.a + m.c, m.b + m.d⟩
  | .v => ⟨-m.a - m.c, -m.b - m.d, m.a, m.b⟩
def one : Mt := ⟨1, 0, 0, 1⟩
def mat (u : List Lt) : Mt := u.foldl ap one
def neg (m : Mt) : Mt := ⟨-m.a, -m.b, -m.c, -m.d⟩
/-- the same up to the sign -/
def Eqs (m n : Mt) : Prop := m = n ∨ m = neg n
theorem neg_neg (m : Mt) : neg (neg m) = m := by cases m; simp [neg]
theorem Eqs.refl (m : Mt) : Eqs m m := .inl rfl
theorem Eqs.symm {m n : Mt} (h : Eqs m n) : Eqs n m := by
  rcases h with rfl | rfl
  · exact .inl rfl
  · exact .inr (neg_neg _).symm
theorem Eqs.trans {m n k : Mt} (h : Eqs m n) (h' : Eqs n k) : Eqs m k := by
  rcases h with rfl | rfl
  · exact h'
  · rcases h' with rfl | rfl
    · exact .inr rfl
    · exact .inl (neg_neg _)
theorem ap_neg (m : Mt) (l : Lt) : ap (neg m) l = neg (ap m l) := by
  cases m
  cases l <;> simp [ap, neg] <;> omega
theorem Eqs.ap {m n : Mt} (h : Eqs m n) (l : Lt) : Eqs (ap m l) (ap n l) := by
  rcases h with rfl | rfl
  · exact .inl rfl
  · exact .inr (ap_neg _ _)
/-- two letters in one -/
def mulL : Lt → Lt → Option (Option Lt)
  | .s, .s => some none
  | .v, .w => some none
  | .w, .v => some none
  | .v, .v => some (some .w)
  | .w, .w => some (some .v)
  | _, _ => none
/-- a letter put behind a plain word (its last letter first) -/
def push : List Lt → Lt → List Lt
  | [], l => [l]
  | t :: st, l => match mulL t l with
    | none => l :: t :: st
    | some none => st
    | some (some m) => push st m
def redr (u : List Lt) : List Lt := u.foldl push []
/-- the matrix of a word that stands with its last letter first -/
def matr : List Lt → Mt
  | [] => one
  | l :: r => ap (matr r) l
theorem push_mat : ∀ (st : List Lt) (l : Lt), Eqs (matr (push st l)) (ap (matr st) l)
  | [], l => .refl _
  | t :: st, l => by
    unfold push
    have two : ∀ m : Mt, (mulL t l = some none → Eqs m (ap (ap m t) l)) ∧ ∀ k, mulL t l = some (some k) → Eqs (ap m k) (ap (ap m t) l) := fun m => by
      refine ⟨fun h => ?_, fun k h => ?_⟩
      · cases t <;> cases l <;> first | (cases h; done) | skip
        all_goals
          cases m
          simp only [Eqs, ap, neg, Mt.mk.injEq]
          first | (left; omega) | (right; omega)
      · cases t <;> cases l <;> first | (cases h; done) | skip
        all_goals
          cases h
          cases m
          simp only [Eqs, ap, neg, Mt.mk.injEq]
          first | (left; omega) | (right; omega)
    split
    · exact .refl _
    · rename_i h
      exact (two (matr st)).1 h
    · rename_i k h
      exact (push_mat st k).trans ((two (matr st)).2 k h)
theorem foldl_mat : ∀ (u st : List Lt) (m : Mt), Eqs (matr st) m → Eqs (matr (u.foldl push st)) (u.foldl ap m)
  | [], _, _, h => h
  | l :: u, st, m, h => foldl_mat u (push st l) (ap m l) ((push_mat st l).trans (h.ap l))
theorem redr_mat (u : List Lt) : Eqs (matr (redr u)) (mat u) := foldl_mat u [] one (.refl _)
/-- s and the others by turns -/
def Alt : List Lt → Prop
  | [] => True
  | [_] => True
  | a :: b :: r => mulL b a = none ∧ Alt (b :: r)
theorem alt_tail {a : Lt} {r : List Lt} (h : Alt (a :: r)) : Alt r := by
  cases r with
  | nil => trivial
  | cons b r => exact h.2
theorem push_alt : ∀ (st : List Lt) (l : Lt), Alt st → Alt (push st l)
  | [], _, _ => trivial
  | t :: st, l, h => by
    unfold push
    split
    · rename_i e
      exact ⟨e, h⟩
    · exact alt_tail h
    · exact push_alt st _ (alt_tail h)
theorem redr_alt : ∀ (u st : List Lt), Alt st → Alt (u.foldl push st)
  | [], _, h => h
  | l :: u, st, h => redr_alt u (push st l) (push_alt st l h)
def Nn (m : Mt) : Prop := 1 ≤ m.a ∧ 0 ≤ m.b ∧ 0 ≤ m.c ∧ 1 ≤ m.d
theorem eqs_cases {m n : Mt} (h : Eqs m n) : (m.a = n.a ∧ m.b = n.b ∧ m.c = n.c ∧ m.d = n.d) ∨ (m.a = -n.a ∧ m.b = -n.b ∧ m.c = -n.c ∧ m.d = -n.d) := by
  rcases h with rfl | rfl
  · exact .inl ⟨rfl, rfl, rfl, rfl⟩
  · exact .inr ⟨rfl, rfl, rfl, rfl⟩
/-- the matrix of an alternating word that does not begin with s; its last letter first -/
def Sh : List Lt → Prop
  | [] => True
  | .s :: r => ∃ n, Eqs (matr (.s :: r)) n ∧ Nn n ∧ 3 ≤ n.a + n.b + n.c + n.d
  | l :: r => ∃ n, Eqs (matr (l :: r)) (ap n l) ∧ Nn n
theorem sh_all : ∀ (st : List Lt), Alt st → st.getLast? ≠ some .s → Sh st
  | [], _, _ => trivial
  | [l], _, h => by
    cases l with
    | s => exact absurd rfl h
    | w => exact ⟨one, .refl _, by unfold Nn one; decide⟩
    | v => exact ⟨one, .refl _, by unfold Nn one; decide⟩
  | l :: k :: r, ha, hl => by
    have ih := sh_all (k :: r) ha.2 (by rw [List.getLast?_cons_cons] at hl; exact hl)
    have hm := ha.1
    cases k with
    | s =>
      obtain ⟨n, h1, h2, h3⟩ := ih
      cases l with
      | s => cases hm
      | w => exact ⟨n, h1.ap _, h2⟩
      | v => exact ⟨n, h1.ap _, h2⟩
    | w =>
      obtain ⟨n, h1, h2⟩ := ih
      cases l with
      | s =>
        refine ⟨⟨n.a + n.c, n.b + n.d, n.c, n.d⟩, (h1.ap .s).trans (.inr ?_), ?_⟩
        · simp [ap, neg]
        · unfold Nn at *
          show _ ∧ _
          simp only
          omega
      | w => cases hm
      | v => cases hm
    | v =>
      obtain ⟨n, h1, h2⟩ := ih
      cases l with
      | s =>
        refine ⟨⟨n.a, n.b, n.a + n.c, n.b + n.d⟩, (h1.ap .s).trans (.inr ?_), ?_⟩
        · simp [ap, neg]; omega
        · unfold Nn at *
          show _ ∧ _
          simp only
          omega
      | w => cases hm
      | v => cases hm
/-- s ahead of a word -/
def fS (m : Mt) : Mt := ⟨m.b, -m.a, m.d, -m.c⟩
theorem ap_fS (m : Mt) (l : Lt) : ap (fS m) l = fS (ap m l) := by
  cases m
  cases l <;> simp [ap, fS] <;> omega
theorem matr_snoc : ∀ (r : List Lt), matr (r ++ [.s]) = fS (matr r)
  | [] => rfl
  | l :: r => by
    show ap (matr (r ++ [.s])) l = fS (ap (matr r) l)
    rw [matr_snoc r, ap_fS]
theorem alt_init : ∀ {r : List Lt} {l : Lt}, Alt (r ++ [l]) → Alt r ∧ (r.getLast? = some l → mulL l l = none)
  | [], _, _ => ⟨trivial, fun h => by cases h⟩
  | [k], l, h => ⟨trivial, fun e => by cases e; exact h.1⟩
  | k :: j :: r, l, h => by
    have := alt_init (r := j :: r) h.2
    exact ⟨⟨h.1, this.1⟩, fun e => this.2 (by rw [List.getLast?_cons_cons] at e; exact e)⟩
theorem sh_not : ∀ {st : List Lt}, st ≠ [] → Sh st → ¬ Eqs (matr st) one ∧ ¬ Eqs (fS (matr st)) one
  | .s :: r, _, ⟨n, h1, ⟨g1, g2, g3, g4⟩, h3⟩ => by
    have e := eqs_cases h1
    refine ⟨fun z => ?_, fun z => ?_⟩
    · have f := eqs_cases z
      simp only [one] at f
      omega
    · have f := eqs_cases z
      simp only [one, fS] at f
      omega
  | .w :: r, _, ⟨n, h1, g1, g2, g3, g4⟩ => by
    have e := eqs_cases h1
    simp only [ap] at e
    refine ⟨fun z => ?_, fun z => ?_⟩
    · have f := eqs_cases z
      simp only [one] at f
      omega
    · have f := eqs_cases z
      simp only [one, fS] at f
      omega
  | .v :: r, _, ⟨n, h1, g1, g2, g3, g4⟩ => by
    have e := eqs_cases h1
    simp only [ap] at e
    refine ⟨fun z => ?_, fun z => ?_⟩
    · have f := eqs_cases z
      simp only [one] at f
      omega
    · have f := eqs_cases z
      simp only [one, fS] at f
      omega
theorem plain_not {st : List Lt} (ha : Alt st) (hn : st ≠ []) : ¬ Eqs (matr st) one := by
  by_cases q : st.getLast? = some .s
  · obtain ⟨r, rfl⟩ : ∃ r, st = r ++ [.s] := List.getLast?_eq_some_iff.mp q
    obtain ⟨h1, h2⟩ := alt_init ha
    have h3 : r.getLast? ≠ some .s := fun e => by cases h2 e
    rw [matr_snoc]
    by_cases z : r = []
    · subst z
      intro e
      have f := eqs_cases e
      simp only [matr, one, fS] at f
      omega
    · exact (sh_not z (sh_all r h1 h3)).2
  · exact (sh_not hn (sh_all st ha q)).1
/-- the word problem -/
theorem red_nil (u : List Lt) : redr u = [] ↔ Eqs (mat u) one := by
  refine ⟨fun h => ?_, fun h => ?_⟩
  · have := redr_mat u
    rw [h] at this
    exact this.symm
  · by_cases q : redr u = []
    · exact q
    · exact absurd ((redr_mat u).trans h) (plain_not (redr_alt u [] trivial) q)
/-! ### powers -/
def mul (x y : Mt) : Mt := ⟨x.a * y.a + x.b * y.c, x.a * y.b + x.b * y.d, x.c * y.a + x.d * y.c, x.c * y.b + x.d * y.d⟩
def mtL : Lt → Mt
  | .s => ⟨0, -1, 1, 0⟩
  | .w => ⟨0, -1, 1, 1⟩
  | .v => ⟨-1, -1, 1, 0⟩
theorem ap_mul (m : Mt) (l : Lt) : ap m l = mul (mtL l) m := by
  cases m
  cases l <;> simp [ap, mul, mtL] <;> omega
theorem mul_assoc (x y z : Mt) : mul (mul x y) z = mul x (mul y z) := by
  cases x; cases y; cases z
  simp only [mul, Mt.mk.injEq]
  refine ⟨?_, ?_, ?_, ?_⟩ <;> grind
theorem mul_one (x : Mt) : mul x one = x := by
  cases x
  simp [mul, one]
theorem one_mul (x : Mt) : mul one x = x := by
  cases x
  simp [mul, one]
theorem foldl_ap : ∀ (v : List Lt) (m : Mt), v.foldl ap m = mul (mat v) m
  | [], m => (one_mul m).symm
  | l :: v, m => by
    show v.foldl ap (ap m l) = mul (v.foldl ap (ap one l)) m
    rw [foldl_ap v, foldl_ap v, ap_mul, ap_mul one, mul_one, mul_assoc]
theorem mat_app (u v : List Lt) : mat (u ++ v) = mul (mat v) (mat u) := by
  unfold mat
  rw [List.foldl_append, foldl_ap v]
  rfl
def det (m : Mt) : Int := m.a * m.d - m.b * m.c
theorem det_ap (m : Mt) (l : Lt) : det (ap m l) = det m := by
  cases m
  cases l <;> simp only [ap, det] <;> grind
theorem det_mat : ∀ (u : List Lt) (m : Mt), det m = 1 → det (u.foldl ap m) = 1
  | [], _, h => h
  | l :: u, m, h => det_mat u (ap m l) (by rw [det_ap]; exact h)
theorem mat_det (u : List Lt) : det (mat u) = 1 := det_mat u one rfl
theorem unit_of {x y : Int} (h : x * y = 1) : (x = 1 ∧ y = 1) ∨ (x = -1 ∧ y = -1) := by
  have h1 : x ∣ 1 := ⟨y, h.symm⟩
  have h2 := Int.natAbs_dvd_natAbs.mpr h1
  have h3 : x.natAbs = 1 := by simpa using h2
  rcases Int.natAbs_eq x with e | e
  · have : x = 1 := by omega
    subst this
    omega
  · have : x = -1 := by omega
    subst this
    omega
theorem one_iff {m : Mt} (h : det m = 1) : Eqs m one ↔ m.b = 0 ∧ m.c = 0 := by
  refine ⟨fun e => ?_, fun ⟨hb, hc⟩ => ?_⟩
  · have f := eqs_cases e
    simp only [one] at f
    omega
  · obtain ⟨a, b, c, d⟩ := m
    simp only at hb hc
    subst hb; subst hc
    have : a * d = 1 := by simp only [det] at h; omega
    rcases unit_of this with ⟨rfl, rfl⟩ | ⟨rfl, rfl⟩
    · exact .inl rfl
    · exact .inr rfl
theorem two_iff {m : Mt} (h : det m = 1) (h1 : ¬ Eqs m one) : Eqs (mul m m) one ↔ m.a + m.d = 0 := by
  obtain ⟨a, b, c, d⟩ := m
  simp only [det] at h
  refine ⟨fun e => ?_, fun e => ?_⟩
  · have f := eqs_cases e
    simp only [mul, one] at f
    have g1 : b * (a + d) = 0 := by rcases f with f | f <;> grind
    have g2 : c * (a + d) = 0 := by rcases f with f | f <;> grind
    rcases Int.mul_eq_zero.mp g1 with q | q
    · rcases Int.mul_eq_zero.mp g2 with q' | q'
      · exact absurd ((one_iff (m := ⟨a, b, c, d⟩) h).mpr ⟨q, q'⟩) h1
      · exact q'
    · exact q
  · simp only at e
    have ed : d = -a := by omega
    subst ed
    refine .inr ?_
    simp only [mul, neg, one, Mt.mk.injEq]
    refine ⟨?_, ?_, ?_, ?_⟩ <;> grind
theorem three_iff {m : Mt} (h : det m = 1) (h1 : ¬ Eqs m one) : Eqs (mul m (mul m m)) one ↔ (m.a + m.d = 1 ∨ m.a + m.d = -1) := by
  obtain ⟨a, b, c, d⟩ := m
  simp only [det] at h
  refine ⟨fun e => ?_, fun e => ?_⟩
  · have f := eqs_cases e
    simp only [mul, one] at f
    have g1 : b * ((a + d) * (a + d) - 1) = 0 := by rcases f with f | f <;> grind
    have g2 : c * ((a + d) * (a + d) - 1) = 0 := by rcases f with f | f <;> grind
    have g3 : (a + d) * (a + d) - 1 = 0 := by
      rcases Int.mul_eq_zero.mp g1 with q | q
      · rcases Int.mul_eq_zero.mp g2 with q' | q'
        · exact absurd ((one_iff (m := ⟨a, b, c, d⟩) h).mpr ⟨q, q'⟩) h1
        · exact q'
      · exact q
    rcases unit_of (x := a + d) (y := a + d) (by omega) with ⟨q, _⟩ | ⟨q, _⟩
    · exact .inl q
    · exact .inr q
  · simp only at e
    rcases e with e | e
    · have ed : d = 1 - a := by omega
      subst ed
      refine .inr ?_
      simp only [mul, neg, one, Mt.mk.injEq]
      refine ⟨?_, ?_, ?_, ?_⟩ <;> grind
    · have ed : d = -1 - a := by omega
      subst ed
      refine .inl ?_
      simp only [mul, one, Mt.mk.injEq]
      refine ⟨?_, ?_, ?_, ?_⟩ <;> grind
end K03

set_option linter.all false
namespace K03
/-! ### the line that is kept -/
theorem low_one {x y x' y' : Int} (h : Int.gcd x y = 1) (h' : Int.gcd x' y' = 1) (hy : 0 < y) (hy' : 0 < y') (e : x * y' = x' * y) : x = x' ∧ y = y' := by
  have d1 : y.natAbs ∣ y'.natAbs := by
    have c : Nat.Coprime y.natAbs x.natAbs := by rw [Nat.coprime_comm]; exact h
    refine c.dvd_of_dvd_mul_left ?_
    rw [← Int.natAbs_mul, e, Int.natAbs_mul]
    exact Nat.dvd_mul_left ..
  have d2 : y'.natAbs ∣ y.natAbs := by
    have c : Nat.Coprime y'.natAbs x'.natAbs := by rw [Nat.coprime_comm]; exact h'
    refine c.dvd_of_dvd_mul_left ?_
    rw [← Int.natAbs_mul, ← e, Int.natAbs_mul]
    exact Nat.dvd_mul_left ..
  have ey : y = y' := by
    have := Nat.dvd_antisymm d1 d2
    omega
  subst ey
  exact ⟨Int.eq_of_mul_eq_mul_right (by omega) e, rfl⟩
def lowP (p q : Int) : Int × Int := if q = 0 then (1, 0) else if 0 < q then (p / Int.gcd p q, q / Int.gcd p q) else (-p / Int.gcd p q, -q / Int.gcd p q)
theorem part_ok {p q : Int} (hq : 0 < q) : Int.gcd (p / Int.gcd p q) (q / Int.gcd p q) = 1 ∧ 0 < q / Int.gcd p q ∧ p / Int.gcd p q * q = p * (q / Int.gcd p q) := by
  have g0 : 0 < Int.gcd p q := Int.gcd_pos_of_ne_zero_right _ (by omega)
  have h1 : p / Int.gcd p q * Int.gcd p q = p := Int.ediv_mul_cancel (Int.gcd_dvd_left ..)
  have h2 : q / Int.gcd p q * Int.gcd p q = q := Int.ediv_mul_cancel (Int.gcd_dvd_right ..)
  refine ⟨Int.gcd_ediv_gcd_ediv_gcd g0, ?_, ?_⟩
  · rcases Int.lt_trichotomy (q / Int.gcd p q) 0 with z | z | z
    · have : q / Int.gcd p q * Int.gcd p q < 0 := Int.mul_neg_of_neg_of_pos z (by omega)
      omega
    · rw [z] at h2
      omega
    · exact z
  · generalize p / (Int.gcd p q : Int) = x at *
    generalize q / (Int.gcd p q : Int) = y at *
    generalize (Int.gcd p q : Int) = g at *
    subst h1
    rw [← h2]
    grind
theorem lowP_ok {p q : Int} (hq : q ≠ 0) : Int.gcd (lowP p q).1 (lowP p q).2 = 1 ∧ 0 < (lowP p q).2 ∧ (lowP p q).1 * q = p * (lowP p q).2 := by
  unfold lowP
  rw [if_neg hq]
  split
  · exact part_ok (by assumption)
  · have e : Int.gcd p q = Int.gcd (-p) (-q) := by simp [Int.gcd]
    rw [e]
    obtain ⟨h1, h2, h3⟩ := part_ok (p := -p) (q := -q) (by omega)
    refine ⟨h1, h2, ?_⟩
    show -p / _ * q = p * (-q / _)
    generalize -p / (Int.gcd (-p) (-q) : Int) = x at *
    generalize -q / (Int.gcd (-p) (-q) : Int) = y at *
    grind
def keptP (p q : Int) : Int × Int := if q / Int.gcd p q < 0 ∨ (q / Int.gcd p q = 0 ∧ p / Int.gcd p q < 0) then (0 - p / Int.gcd p q, 0 - q / Int.gcd p q) else (p / Int.gcd p q, q / Int.gcd p q)
theorem keptP_ok {p q : Int} (hq : q ≠ 0) : Int.gcd (keptP p q).1 (keptP p q).2 = 1 ∧ 0 < (keptP p q).2 ∧ (keptP p q).1 * q = p * (keptP p q).2 := by
  have g0 : 0 < Int.gcd p q := Int.gcd_pos_of_ne_zero_right _ hq
  have h1 : p / Int.gcd p q * Int.gcd p q = p := Int.ediv_mul_cancel (Int.gcd_dvd_left ..)
  have h2 : q / Int.gcd p q * Int.gcd p q = q := Int.ediv_mul_cancel (Int.gcd_dvd_right ..)
  have h3 : Int.gcd (p / Int.gcd p q) (q / Int.gcd p q) = 1 := Int.gcd_ediv_gcd_ediv_gcd g0
  have g1 : (0 : Int) < (Int.gcd p q : Int) := by omega
  unfold keptP
  generalize p / (Int.gcd p q : Int) = x at *
  generalize q / (Int.gcd p q : Int) = y at *
  generalize (Int.gcd p q : Int) = g at *
  have y0 : y ≠ 0 := fun z => by rw [z] at h2; omega
  split
  · have yn : y < 0 := by omega
    refine ⟨?_, ?_, ?_⟩
    · show Int.gcd (0 - x) (0 - y) = 1
      rw [Int.zero_sub, Int.zero_sub, Int.neg_gcd, Int.gcd_neg]
      exact h3
    · show 0 < 0 - y
      omega
    · show (0 - x) * q = p * (0 - y)
      rw [← h1, ← h2]
      grind
  · refine ⟨h3, ?_, ?_⟩
    · show 0 < y
      omega
    · show x * q = p * y
      rw [← h1, ← h2]
      grind
theorem keptP_0 {p : Int} (hp : p ≠ 0) : keptP p 0 = (1, 0) := by
  have e : (Int.gcd p 0 : Int) = p.natAbs := by rw [Int.gcd_zero_right]
  unfold keptP
  rw [e, Int.zero_ediv]
  rcases Int.lt_or_gt_of_ne hp with z | z
  · have e1 : p / (p.natAbs : Int) = -1 := by
      rw [show (p.natAbs : Int) = -p by omega, Int.ediv_neg, Int.ediv_self hp]
    rw [e1]
    rfl
  · have e1 : p / (p.natAbs : Int) = 1 := by
      rw [show (p.natAbs : Int) = p by omega, Int.ediv_self hp]
    rw [e1]
    rfl
/-- the two lines -/
theorem held_eq {m : Mt} (h : det m = 1) (h1 : ¬ Eqs m one) {t : Int} (ht : t = 1 ∨ t = -1) (e : m.a + m.d = 2 * t) :
    (if m.c = 0 then (1, 0) else lowP (m.a - m.d) (2 * m.c)) = (if m.b = 0 ∧ t - m.a = 0 then keptP (t - m.d) m.c else keptP m.b (t - m.a)) := by
  obtain ⟨a, b, c, d⟩ := m
  simp only [det] at h e ⊢
  have ed : d = 2 * t - a := by omega
  subst ed
  have tt : t * t = 1 := by rcases ht with rfl | rfl <;> rfl
  have bc : b * c = -((a - t) * (a - t)) := by grind
  by_cases hc : c = 0
  · subst hc
    have z : a - t = 0 := by
      have : (a - t) * (a - t) = 0 := by omega
      rcases Int.mul_eq_zero.mp this with q | q <;> exact q
    have hb : b ≠ 0 := fun q => h1 ((one_iff (m := ⟨a, b, 0, 2 * t - a⟩) h).mpr ⟨q, rfl⟩)
    rw [if_pos rfl, if_neg (fun q => hb q.1), show t - a = 0 by omega, keptP_0 hb]
  · rw [if_neg hc]
    obtain ⟨l1, l2, l3⟩ := lowP_ok (p := a - (2 * t - a)) (q := 2 * c) (by omega)
    by_cases hb : b = 0 ∧ t - a = 0
    · rw [if_pos hb]
      obtain ⟨k1, k2, k3⟩ := keptP_ok (p := t - (2 * t - a)) (q := c) hc
      have ea : a = t := by omega
      subst ea
      have := low_one l1 k1 l2 k2 (by
        have z1 : (lowP (a - (2 * a - a)) (2 * c)).1 * (2 * c) = 0 := by rw [l3]; grind
        have z2 : (keptP (a - (2 * a - a)) c).1 * c = 0 := by rw [k3]; grind
        have z3 : (lowP (a - (2 * a - a)) (2 * c)).1 = 0 := by
          rcases Int.mul_eq_zero.mp z1 with q | q
          · exact q
          · omega
        have z4 : (keptP (a - (2 * a - a)) c).1 = 0 := by
          rcases Int.mul_eq_zero.mp z2 with q | q
          · exact q
          · omega
        rw [z3, z4]
        grind)
      exact Prod.ext this.1 this.2
    · rw [if_neg hb]
      have ta : t - a ≠ 0 := fun q => by
        have : b * c = 0 := by rw [bc, show a - t = 0 by omega]; rfl
        rcases Int.mul_eq_zero.mp this with z | z
        · exact hb ⟨z, q⟩
        · exact hc z
      obtain ⟨k1, k2, k3⟩ := keptP_ok (p := b) (q := t - a) ta
      have := low_one l1 k1 l2 k2 (by
        generalize (lowP (a - (2 * t - a)) (2 * c)).1 = x at *
        generalize (lowP (a - (2 * t - a)) (2 * c)).2 = y at *
        generalize (keptP b (t - a)).1 = x' at *
        generalize (keptP b (t - a)).2 = y' at *
        have q1 : x * c = (a - t) * y := by grind
        have q2 : (x * y' - x' * y) * (c * (t - a)) = 0 := by grind
        rcases Int.mul_eq_zero.mp q2 with q | q
        · omega
        · rcases Int.mul_eq_zero.mp q with z | z
          · exact absurd z hc
          · exact absurd z ta)
      exact Prod.ext this.1 this.2
end K03

set_option Elab.async false
set_option linter.all false
set_option maxRecDepth 100000
set_option maxHeartbeats 4000000
namespace K03
open PySem PySem.Spec PyProof.Rows L2 Zd
local macro_rules | `(tactic| walk_at "ev") => `(tactic| simp -dsimp (maxSteps := 400000) only [↓hold_app, ↓thn_nx, ↓thn_rt, ↓thn_bk, ↓thn_ct, ↓qRD_e, ↓qDR_e, ↓qLook_e, ↓qVar_e, ↓qMove_e, ↓qC_e, ↓qBin_e, ↓qBinN_e, ↓qBinM_e, ↓qTst_e, ↓qTru_e, ↓qAnd_e, ↓qOr_e, ↓qNot_e, ↓qAndV_e, ↓qOrV_e, ↓qNotV_e, ↓qIf_e,
  ↓qNil_e, ↓qCons_e, ↓qTup_e, ↓qLst_e, ↓qNeg_e, ↓qO0_e, ↓qO1_e, ↓qSl_e, ↓qSlN_e, ↓qCl_e, ↓qIsi_e, ↓qCall_e, ↓qaNil_e, ↓qaD_e, ↓qaN_e, ↓qApp_e, ↓qExt_e, ↓qPop_e, ↓qJoin_e, ↓qItD_e, ↓qRng1_e, ↓qRng2_e, ↓qgName_e, ↓qgNil_e, ↓qgCons_e, ↓qgTup_e, ↓qNext_e, ↓qSeq_e, ↓qBrk_e, ↓qCnt_e, ↓qDrop_e, ↓qRet_e, ↓qRetN_e,
  ↓qIfS_e, ↓qSet_e, ↓qAsg_e, ↓qPar_e, ↓qAugI_e, ↓qFor_e, ↓qYes_e, ↓qLc_e, ↓qReord_e, ↓qPut_e, ↓qBits_e, ↓qJd_e, ↓qJput_e, ↓qJlen_e, ↓qJapp_e, ↓qJpop_e, ↓qJix_e, ↓qJput2_e, ↓qnNil_e, ↓qnCons_e, ↓qmSeq_e, ↓qmRet_e, ↓qmDisp_e, ↓qoRet_e, ↓qMake_e, ↓qKget_e, ↓qKin_e, ↓qRev_e, ↓qSindex_e, ↓qCget_e, ↓qCget2_e,
  asD, truP, seeD, frz, known, isB, dAdd, dI, dSub, dMul, dFdiv, dMod, dPow, dShl, dC, dLt, dLe, dGt, dGe, dEqB, dEq, dNe, dIs, Zd.isNon, dIn, dIx, dSl, cLen, cAbs, cInt, cMin, cMax, cGcd, cTuple, cList, tyD, given, resv, frzs, behind, flatD, rowD, strsD, itemsD, clean, noOw, wipeD, isOw, putOw, startD,
  slA, jPart, Jc.put, isT, isTs, keyD, Kd.at, Tb.at, Bool.and_true, Bool.true_and, Nd.l.injEq, Nd.d.injEq, Nd.m.injEq, Sl.jo.injEq, List.map_append, List.getLast?_concat, List.dropLast_concat, Sum.inl.injEq, Sum.inr.injEq, ixl_1_0, ixl_2_0, ixl_2_1, ixl_3_0, ixl_3_1, ixl_3_2, ixl_4_0, ixl_4_1, ixl_4_2,
  ixl_4_3, ixl_5_0, ixl_5_1, ixl_5_2, ixl_5_3, ixl_5_4, ixl_6_0, ixl_6_1, ixl_6_2, ixl_6_3, ixl_6_4, ixl_6_5, reord, List.getD_cons_zero, List.getD_cons_succ, kb_bool_bool, kb_bool_int, kb_bool_str, kb_bool_tuple, kb_bool_list, kb_int_bool, kb_int_int, kb_int_str, kb_int_tuple, kb_int_list, kb_str_bool,
  kb_str_int, kb_str_str, kb_str_tuple, kb_str_list, kb_tuple_bool, kb_tuple_int, kb_tuple_str, kb_tuple_tuple, kb_tuple_list, kb_list_bool, kb_list_int, kb_list_str, kb_list_tuple, kb_list_list, kb_NoneType_bool, kb_NoneType_int, kb_NoneType_str, kb_NoneType_tuple, kb_NoneType_list, List.map_cons, List.map_nil,
  List.length_cons, List.length_nil, Nat.reduceAdd, Nat.reduceSub, List.replicate_succ, List.replicate_zero, List.cons_append, List.nil_append, List.getElem?_cons_zero, List.getElem?_cons_succ, List.getElem?_nil, List.set_cons_zero, List.set_cons_succ, Option.map_some, Option.some.injEq, Option.map_none,
  PyData.int.injEq, PyData.bool.injEq, PyData.str.injEq, PyData.tuple.injEq, PyData.list.injEq, Sl.da.injEq, Sl.ow.injEq, Ag.d.injEq, List.cons.injEq, exists_eq_left', exists_eq_left, exists_eq_right, exists_eq_right', exists_and_left, exists_eq, exists_eq', exists_const, and_true, true_and, and_assoc,
  decide_eq_true_eq, Bool.not_eq_true', decide_eq_false_iff_not, reduceIte, Bool.false_eq_true, Bool.true_eq_false, Bool.not_true, Bool.not_false, reduceCtorEq, and_false, false_and, exists_false, decide_true, decide_false, atI_0, atI_1, atI_2, abs_nat, Nat.succ_ne_zero, ne_eq, not_false_eq_true, not_true_eq_false])
  
local macro_rules | `(tactic| walk_at "un") => `(tactic| simp -dsimp (maxSteps := 400000) only [↓loopD_nil, ↓loopD_cons, ↓lcD_nil, ↓lcD_cons, ↓hold_app, ↓thn_nx, ↓thn_rt, ↓thn_bk, ↓thn_ct, ↓qRD_e, ↓qDR_e, ↓qLook_e, ↓qVar_e, ↓qMove_e, ↓qC_e, ↓qBin_e, ↓qBinN_e, ↓qBinM_e, ↓qTst_e, ↓qTru_e, ↓qAnd_e, ↓qOr_e, ↓qNot_e, ↓qAndV_e, ↓qOrV_e, ↓qNotV_e, ↓qIf_e,
  ↓qNil_e, ↓qCons_e, ↓qTup_e, ↓qLst_e, ↓qNeg_e, ↓qO0_e, ↓qO1_e, ↓qSl_e, ↓qSlN_e, ↓qCl_e, ↓qIsi_e, ↓qCall_e, ↓qaNil_e, ↓qaD_e, ↓qaN_e, ↓qApp_e, ↓qExt_e, ↓qPop_e, ↓qJoin_e, ↓qItD_e, ↓qRng1_e, ↓qRng2_e, ↓qgName_e, ↓qgNil_e, ↓qgCons_e, ↓qgTup_e, ↓qNext_e, ↓qSeq_e, ↓qBrk_e, ↓qCnt_e, ↓qDrop_e, ↓qRet_e, ↓qRetN_e,
  ↓qIfS_e, ↓qSet_e, ↓qAsg_e, ↓qPar_e, ↓qAugI_e, ↓qFor_e, ↓qYes_e, ↓qLc_e, ↓qReord_e, ↓qPut_e, ↓qBits_e, ↓qJd_e, ↓qJput_e, ↓qJlen_e, ↓qJapp_e, ↓qJpop_e, ↓qJix_e, ↓qJput2_e, ↓qnNil_e, ↓qnCons_e, ↓qmSeq_e, ↓qmRet_e, ↓qmDisp_e, ↓qoRet_e, ↓qMake_e, ↓qKget_e, ↓qKin_e, ↓qRev_e, ↓qSindex_e, ↓qCget_e, ↓qCget2_e,
  asD, truP, seeD, frz, known, isB, dAdd, dI, dSub, dMul, dFdiv, dMod, dPow, dShl, dC, dLt, dLe, dGt, dGe, dEqB, dEq, dNe, dIs, Zd.isNon, dIn, dIx, dSl, cLen, cAbs, cInt, cMin, cMax, cGcd, cTuple, cList, tyD, given, resv, frzs, behind, flatD, rowD, strsD, itemsD, clean, noOw, wipeD, isOw, putOw, startD,
  slA, jPart, Jc.put, isT, isTs, keyD, Kd.at, Tb.at, Bool.and_true, Bool.true_and, Nd.l.injEq, Nd.d.injEq, Nd.m.injEq, Sl.jo.injEq, List.map_append, List.getLast?_concat, List.dropLast_concat, Sum.inl.injEq, Sum.inr.injEq, ixl_1_0, ixl_2_0, ixl_2_1, ixl_3_0, ixl_3_1, ixl_3_2, ixl_4_0, ixl_4_1, ixl_4_2,
  ixl_4_3, ixl_5_0, ixl_5_1, ixl_5_2, ixl_5_3, ixl_5_4, ixl_6_0, ixl_6_1, ixl_6_2, ixl_6_3, ixl_6_4, ixl_6_5, reord, List.getD_cons_zero, List.getD_cons_succ, kb_bool_bool, kb_bool_int, kb_bool_str, kb_bool_tuple, kb_bool_list, kb_int_bool, kb_int_int, kb_int_str, kb_int_tuple, kb_int_list, kb_str_bool,
  kb_str_int, kb_str_str, kb_str_tuple, kb_str_list, kb_tuple_bool, kb_tuple_int, kb_tuple_str, kb_tuple_tuple, kb_tuple_list, kb_list_bool, kb_list_int, kb_list_str, kb_list_tuple, kb_list_list, kb_NoneType_bool, kb_NoneType_int, kb_NoneType_str, kb_NoneType_tuple, kb_NoneType_list, List.map_cons, List.map_nil,
  List.length_cons, List.length_nil, Nat.reduceAdd, Nat.reduceSub, List.replicate_succ, List.replicate_zero, List.cons_append, List.nil_append, List.getElem?_cons_zero, List.getElem?_cons_succ, List.getElem?_nil, List.set_cons_zero, List.set_cons_succ, Option.map_some, Option.some.injEq, Option.map_none,
  PyData.int.injEq, PyData.bool.injEq, PyData.str.injEq, PyData.tuple.injEq, PyData.list.injEq, Sl.da.injEq, Sl.ow.injEq, Ag.d.injEq, List.cons.injEq, exists_eq_left', exists_eq_left, exists_eq_right, exists_eq_right', exists_and_left, exists_eq, exists_eq', exists_const, and_true, true_and, and_assoc,
  decide_eq_true_eq, Bool.not_eq_true', decide_eq_false_iff_not, reduceIte, Bool.false_eq_true, Bool.true_eq_false, Bool.not_true, Bool.not_false, reduceCtorEq, and_false, false_and, exists_false, decide_true, decide_false, atI_0, atI_1, atI_2, abs_nat, Nat.succ_ne_zero, ne_eq, not_false_eq_true, not_true_eq_false])
  
def tb_PRODUCTS : Tb := [("ss", .str ""), ("vw", .str ""), ("wv", .str ""), ("vv", .str "w"), ("ww", .str "v")]
def tb_ROWS : Tb := [("s", .tuple [.int 0, .int (-1), .int 1, .int 0]), ("w", .tuple [.int 0, .int (-1), .int 1, .int 1]), ("v", .tuple [.int (-1), .int (-1), .int 1, .int 0])]
def Lt.code : Lt → Nat
  | .s => 115
  | .w => 119
  | .v => 118
/-- the text of a word -/
def tx (u : List Lt) : Str := ⟨(u.map Lt.code).toArray⟩
def mtD (m : Mt) : D := .tuple [.int m.a, .int m.b, .int m.c, .int m.d]
def prD (x : Int × Int) : D := .tuple [.int x.1, .int x.2]
/-- what the drawing thing always holds -/
def good (c : Jc) : Prop := ∃ (is : List Int) (b1 b2 : Int), c = ⟨none, [.l (is.map .int), .d (.int b1), .d (.int b2)]⟩ ∧ is.length ≤ 63 ∧ 0 ≤ b1 ∧ b1 < 1999957 ∧ 0 ≤ b2 ∧ b2 < 1999957
def ordW (u : List Lt) : D := if redr u = [] then .int 1 else if redr (u ++ u) = [] then .int 2 else if redr (u ++ (u ++ u)) = [] then .int 3 else .none
def ordM (m : Mt) : D := if m.b = 0 ∧ m.c = 0 then .int 1 else if m.a + m.d = 0 then .int 2 else if m.a + m.d = 1 ∨ m.a + m.d = -1 then .int 3 else .none
def heldD (m : Mt) : D := if m.a + m.d = 2 ∨ m.a + m.d = -2 then prD (if m.c = 0 then (1, 0) else lowP (m.a - m.d) (2 * m.c)) else .none
def inv : Lt → Lt
  | .s => .s
  | .w => .v
  | .v => .w
def Sm (m : Mt) : Prop := m.a.natAbs < 2 ^ 400 ∧ m.b.natAbs < 2 ^ 400 ∧ m.c.natAbs < 2 ^ 400 ∧ m.d.natAbs < 2 ^ 400
def pp_reduced : PPr := fun gs R => ∃ u, gs = [.d (.str (tx u))] ∧ u.length ≤ 700 ∧ R (.da (.str (tx (redr u).reverse)))
def pp_turn_order : PPr := fun gs R => ∃ u, gs = [.d (.str (tx u))] ∧ u.length ≤ 200 ∧ R (.da (ordW u))
def pp_behind : PPr := fun gs R => ∃ m l, gs = [.d (mtD m), .d (mtD (mtL l))] ∧ R (.da (mtD (ap m l)))
def pp_lowest : PPr := fun gs R => ∃ p q, gs = [.d (.int p), .d (.int q)] ∧ q ≠ 0 ∧ p.natAbs < 2 ^ 400 ∧ q.natAbs < 2 ^ 400 ∧ R (.da (prD (lowP p q)))
def pp_held_tangle : PPr := fun gs R => ∃ u, gs = [.d (.str (tx u))] ∧ u.length ≤ 200 ∧ R (.da (heldD (mat u)))
def pp__law_jar : PPm := fun gs R => ∃ ns : List Int, gs = [.d (.list (ns.map .int))] ∧ ns.length ≤ 63 ∧ ∀ c, good c → R c
def pp__law_draw : PPr := fun gs R => ∃ many place, gs = [.j, .d (.int many), .d (.int place)] ∧ 1 ≤ many ∧ many < 100000 ∧ 0 ≤ place ∧ place < 1000 ∧ ∀ r, 0 ≤ r → r < many → R (.da (.int r))
def pp__law_back : PPr := fun gs R => ∃ u, gs = [.d (.str (tx u))] ∧ u.length ≤ 200 ∧ R (.da (.str (tx (u.reverse.map inv))))
def pp__law_letters : PPr := fun gs R => ∃ many place, gs = [.j, .d (.int many), .d (.int place)] ∧ 0 ≤ many ∧ many ≤ 200 ∧ 0 ≤ place ∧ place < 1000 ∧ ∀ u : List Lt, (u.length : Int) = many → R (.da (.str (tx u)))
def pp__law_plain : PPr := fun gs R => ∃ many, gs = [.j, .d (.int many)] ∧ 0 ≤ many ∧ many ≤ 200 ∧ ∀ u : List Lt, (u.length : Int) = many → R (.da (.str (tx u)))
def pp__law_puffed : PPr := fun gs R => ∃ u, gs = [.j, .d (.str (tx u))] ∧ u.length ≤ 200 ∧ ∀ u' : List Lt, u'.length ≤ 200 → R (.da (.str (tx u')))
def pp__law_matrix : PPr := fun gs R => ∃ u, gs = [.d (.str (tx u))] ∧ u.length ≤ 200 ∧ R (.da (mtD (mat u)))
def pp__law_order : PPr := fun gs R => ∃ m, gs = [.d (mtD m)] ∧ R (.da (ordM m))
def pp__law_kept : PPr := fun gs R => ∃ m, gs = [.d (mtD m)] ∧ det m = 1 ∧ ¬ Eqs m one ∧ Sm m ∧ R (.da (heldD m))
/-- data that the law compares, by depth -/
def Cmp : Nat → D → Prop
  | 0, d => d = .none ∨ ∃ i, d = .int i
  | k + 1, d => Cmp k d ∨ ∃ ds, d = .tuple ds ∧ ds.length ≤ 10 ∧ ∀ x ∈ ds, Cmp k x
def ppr__law_same : Nat → PPr
  | 0 => fun _ _ => False
  | k + 1 => fun gs R => ∃ d, gs = [.d d, .d d] ∧ Cmp k d ∧ R (.da (.bool true))
abbrev pp__law_same : PPr := ppr__law_same 3
def pp__law_asked : PPr := fun gs R => ∃ u b, gs = [.d (.str (tx u)), .d (.bool b)] ∧ u.length ≤ 200 ∧ R (.da (.bool true))
def Wd (d : D) : Prop := ∃ u : List Lt, d = .str (tx u) ∧ u.length ≤ 200
def pp__law_words : PPr := fun gs R => gs = [.j] ∧ ∀ ds : List D, (∀ d ∈ ds, Wd d) → ds.length = 6 → R (.ow ds)
abbrev Ends0 (R : Sl → Prop) : EndD := ⟨fun _ => R (.da .none), fun r _ => R r, fun _ => False, fun _ => False⟩
theorem mulL' {a b : Int} (h1 : -(2 ^ 64) < a) (h2 : a < 2 ^ 64) : CMulA a b := .inl (.inl ⟨h1, h2⟩)
theorem mulR' {a b : Int} (h1 : -(2 ^ 64) < b) (h2 : b < 2 ^ 64) : CMulA a b := .inl (.inr ⟨h1, h2⟩)
def q_reduced : QS := (qSeq (qSet 1 (qLst qNil))
    (qSeq (qFor (qItD (qVar 0)) (qgName 2) (qSeq (qWhile (qAnd (qTst (qBinM dNe 2 (qC (.str "")))) (qAnd (qTst (qBin dGt (qDR (qCl cLen (qCons (qLook 1) qNil))) (qC (.int 0)))) (qTst (qKin tb_PRODUCTS (fun b => b) (qDR (qBin dAdd (qDR (qBinM dIx 1 (qNeg (qC (.int 1))))) (qLook 2))))))) (qSeq (qSet 2 (qRD (qKget tb_PRODUCTS (qDR (qBin dAdd (qDR (qPop 1)) (qLook 2))))))
    qNext))
    (qSeq (qIfS (qTst (qBinM dNe 2 (qC (.str "")))) (qSeq (qDrop (qApp 1 (qVar 2)))
    qNext) qNext)
    qNext)))
    (qSeq (qRet (qRD (qJoin (qC (.str "")) (qLook 1))))
    qNext)))
def q_turn_order : QS := (qSeq (qFor (qItD (qTup (qCons (qC (.int 1)) (qCons (qC (.int 2)) (qCons (qC (.int 3)) qNil))))) (qgName 1) (qSeq (qIfS (qTst (qBin dEq (qDR (qCall pp_reduced (qaD (qDR (qBinM dMul 0 (qLook 1))) qaNil))) (qC (.str "")))) (qSeq (qRet (qMove 1))
    qNext) qNext)
    qNext))
    (qSeq (qRet (qRD (qC .none)))
    qNext))
def q_behind : QS := (qSeq (qAsg (qVar 1) (qgTup 4 (qgCons (qgName 2) (qgCons (qgName 3) (qgCons (qgName 4) (qgCons (qgName 5) qgNil))))))
    (qSeq (qAsg (qVar 0) (qgTup 4 (qgCons (qgName 6) (qgCons (qgName 7) (qgCons (qgName 8) (qgCons (qgName 9) qgNil))))))
    (qSeq (qRet (qRD (qTup (qCons (qDR (qBin dAdd (qDR (qBinM dMul 2 (qLook 6))) (qDR (qBinM dMul 3 (qLook 8))))) (qCons (qDR (qBin dAdd (qDR (qBinM dMul 2 (qLook 7))) (qDR (qBinM dMul 3 (qLook 9))))) (qCons (qDR (qBin dAdd (qDR (qBinM dMul 4 (qLook 6))) (qDR (qBinM dMul 5 (qLook 8))))) (qCons (qDR (qBin dAdd (qDR (qBinM dMul 4 (qLook 7))) (qDR (qBinM dMul 5 (qLook 9))))) qNil)))))))
    qNext)))
def q_lowest : QS := (qSeq (qIfS (qTst (qBinM dEq 1 (qC (.int 0)))) (qSeq (qRet (qRD (qTup (qCons (qC (.int 1)) (qCons (qC (.int 0)) qNil)))))
    qNext) qNext)
    (qSeq (qSet 2 (qCl cGcd (qCons (qVar 0) (qCons (qLook 1) qNil))))
    (qSeq (qRet (qIf (qTst (qBinM dGt 1 (qC (.int 0)))) (qRD (qTup (qCons (qDR (qBinM dFdiv 0 (qLook 2))) (qCons (qDR (qBinM dFdiv 1 (qLook 2))) qNil)))) (qRD (qTup (qCons (qDR (qBin dFdiv (qNeg (qVar 0)) (qLook 2))) (qCons (qDR (qBin dFdiv (qNeg (qVar 1)) (qLook 2))) qNil))))))
    qNext)))
def q_held_tangle : QS := (qSeq (qSet 1 (qRD (qTup (qCons (qC (.int 1)) (qCons (qC (.int 0)) (qCons (qC (.int 0)) (qCons (qC (.int 1)) qNil)))))))
    (qSeq (qFor (qItD (qVar 0)) (qgName 2) (qSeq (qSet 1 (qCall pp_behind (qaN 1 (qaD (qDR (qRD (qKget tb_ROWS (qVar 2)))) qaNil))))
    qNext))
    (qSeq (qAsg (qVar 1) (qgTup 4 (qgCons (qgName 3) (qgCons (qgName 4) (qgCons (qgName 5) (qgCons (qgName 6) qgNil))))))
    (qSeq (qIfS (qTst (qBin dNe (qDR (qCl cAbs (qCons (qDR (qBinM dAdd 3 (qLook 6))) qNil))) (qC (.int 2)))) (qSeq (qRet (qRD (qC .none)))
    qNext) qNext)
    (qSeq (qRet (qIf (qTst (qBinM dEq 5 (qC (.int 0)))) (qRD (qTup (qCons (qC (.int 1)) (qCons (qC (.int 0)) qNil)))) (qCall pp_lowest (qaD (qDR (qBinM dSub 3 (qLook 6))) (qaD (qDR (qBin dMul (qC (.int 2)) (qLook 5))) qaNil)))))
    qNext)))))
def q__law_jar : QM := (qmDisp 1 (qnCons (qLst qNil) (qnCons (qRD (qC (.int 90001))) (qnCons (qRD (qC (.int 0))) qnNil)))
    (qmSeq (qFor (qItD (qDR (qSlN 0 qO0 (qO1 (qC (.int 63)))))) (qgName 2) (qSeq (qSet 3 (qIf (qTst (qBinM dGe 2 (qC (.int 0)))) (qBin dMul (qC (.int 2)) (qDR (qCl cInt (qCons (qLook 2) qNil)))) (qBin dSub (qC (.int 1)) (qDR (qBin dMul (qC (.int 2)) (qDR (qCl cInt (qCons (qLook 2) qNil))))))))
    (qSeq (qJput 1 1 (qDR (qBin dMod (qDR (qCl cInt (qCons (qDR (qBin dAdd (qDR (qBin dAdd (qDR (qBin dMul (qDR (qJd 1 1)) (qC (.int 51637)))) (qDR (qBin dMod (qDR (qCl cInt (qCons (qLook 3) qNil))) (qC (.int 1999891)))))) (qC (.int 29)))) qNil))) (qC (.int 1999957)))))
    (qSeq (qIfS (qTst (qBinM dGe 3 (qDR (qBin dPow (qC (.int 10)) (qC (.int 18)))))) (qSeq (qDrop (qJapp 1 0 (qDR (qBin dMod (qDR (qCl cInt (qCons (qLook 3) qNil))) (qDR (qBin dPow (qDR (qBin dPow (qC (.int 10)) (qC (.int 60)))) (qC (.int 9))))))))
    qNext) qNext)
    qNext))))
    (qmSeq (qJput 1 2 (qDR (qBin dMod (qDR (qCl cInt (qCons (qDR (qBin dAdd (qDR (qBin dMul (qDR (qJd 1 1)) (qC (.int 7177)))) (qC (.int 331)))) qNil))) (qC (.int 1999957)))))
    (qoRet 1))))
def q__law_draw : QS := (qSeq (qIfS (qTst (qBinM dLt 1 (qC (.int 2)))) (qSeq (qRet (qRD (qC (.int 0))))
    qNext) qNext)
    (qSeq (qIfS (qTst (qBin dGt (qDR (qJlen 0 0)) (qC (.int 0)))) (qSeq (qSet 3 (qCl cInt (qCons (qDR (qJpop 0 0)) qNil)))
    (qSeq (qIfS (qTst (qBinM dGe 3 (qLook 1))) (qSeq (qDrop (qJapp 0 0 (qDR (qBinM dFdiv 3 (qLook 1)))))
    qNext) qNext)
    (qSeq (qRet (qBin dMod (qDR (qCl cInt (qCons (qLook 3) qNil))) (qLook 1)))
    qNext))) qNext)
    (qSeq (qJput 0 1 (qDR (qBin dMod (qDR (qCl cInt (qCons (qDR (qBin dAdd (qDR (qBin dMul (qDR (qJd 0 1)) (qC (.int 40009)))) (qC (.int 1237)))) qNil))) (qC (.int 1999957)))))
    (qSeq (qSet 4 (qBin dMod (qDR (qBin dMod (qDR (qCl cInt (qCons (qDR (qBin dAdd (qDR (qBin dMul (qDR (qJd 0 2)) (qDR (qBinM dAdd 2 (qC (.int 5)))))) (qDR (qBinM dMul 2 (qC (.int 6151)))))) qNil))) (qC (.int 99991)))) (qC (.int 8))))
    (qSeq (qIfS (qTst (qBinM dLt 4 (qC (.int 2)))) (qSeq (qRet (qIf (qTst (qBinM dEq 4 (qC (.int 0)))) (qRD (qC (.int 0))) (qBinM dSub 1 (qC (.int 1)))))
    qNext) qNext)
    (qSeq (qIfS (qTst (qBinM dEq 4 (qC (.int 2)))) (qSeq (qRet (qBin dMod (qDR (qCl cInt (qCons (qDR (qBin dAdd (qDR (qJd 0 2)) (qDR (qBin dMul (qC (.int 53)) (qLook 2))))) qNil))) (qLook 1)))
    qNext) qNext)
    (qSeq (qRet (qBin dMod (qDR (qCl cInt (qCons (qDR (qBin dFdiv (qDR (qJd 0 1)) (qC (.int 19)))) qNil))) (qLook 1)))
    qNext)))))))
def q__law_back : QS := (qSeq (qRet (qRD (qJoin (qC (.str "")) (qDR (qLc (qItD (qDR (qRev (qLook 0)))) (qgName 1) qYes (qDR (qBin dIx (qC (.str "svw")) (qDR (qRD (qSindex (qC (.str "swv")) (qVar 1)))))) [1])))))
    qNext)
def q__law_letters : QS := (qSeq (qRet (qRD (qJoin (qC (.str "")) (qDR (qLc (qRng1 (qCons (qVar 1) qNil)) (qgName 3) qYes (qDR (qBin dIx (qC (.str "svw")) (qDR (qCall pp__law_draw (qaN 0 (qaD (qC (.int 3)) (qaN 2 qaNil))))))) [3])))))
    qNext)
def q__law_plain : QS := (qSeq (qSet 2 (qCall pp__law_draw (qaN 0 (qaD (qC (.int 2)) (qaD (qC (.int 17)) qaNil)))))
    (qSeq (qRet (qRD (qJoin (qC (.str "")) (qDR (qLc (qRng1 (qCons (qVar 1) qNil)) (qgName 3) qYes (qDR (qIf (qTst (qBin dEq (qDR (qBin dMod (qDR (qCl cInt (qCons (qDR (qBinM dAdd 3 (qLook 2))) qNil))) (qC (.int 2)))) (qC (.int 0)))) (qRD (qC (.str "s"))) (qBin dIx (qC (.str "vw")) (qDR (qCall pp__law_draw (qaN 0 (qaD (qC (.int 2)) (qaD (qC (.int 18)) qaNil)))))))) [3])))))
    qNext))
abbrev q__law_puffed_ck1 : QS := (qSeq (qRet (qMove 1))
    qNext)
def q__law_puffed_k1 : QS := q__law_puffed_ck1
theorem q__law_puffed_k1_e (E : EndD) (ρ : List Sl) : q__law_puffed_k1 E ρ = q__law_puffed_ck1 E ρ := rfl
abbrev q__law_puffed_s1 : QS := (qSeq (qIfS (qTst (qBin dLt (qDR (qCl cLen (qCons (qLook 1) qNil))) (qC (.int 200)))) (qSeq (qSet 1 (qBin dAdd (qDR (qBin dAdd (qDR (qSlN 1 qO0 (qO1 (qVar 3)))) (qLook 4))) (qDR (qSlN 1 (qO1 (qDR (qBinM dAdd 3 (qC (.int 1))))) qO0))))
    qNext) qNext)
    qNext)
abbrev q__law_puffed_s2 : QS := (qSeq (qIfS (qAnd (qTst (qBin dEq (qDR (qCall pp__law_draw (qaN 0 (qaD (qC (.int 2)) (qaD (qC (.int 4)) qaNil))))) (qC (.int 0)))) (qAnd (qTst (qBinM dLt 3 (qDR (qCl cLen (qCons (qLook 1) qNil))))) (qTst (qBin dNe (qDR (qBinM dIx 1 (qLook 3))) (qC (.str "s")))))) (qSeq (qSet 4 (qIf (qTst (qBin dEq (qDR (qBinM dIx 1 (qLook 3))) (qC (.str "w")))) (qRD (qC (.str "vv"))) (qRD (qC (.str "ww")))))
    q__law_puffed_s1) (qSeq (qIfS (qTst (qBin dLe (qDR (qBin dAdd (qDR (qCl cLen (qCons (qLook 1) qNil))) (qDR (qCl cLen (qCons (qLook 4) qNil))))) (qC (.int 200)))) (qSeq (qSet 1 (qBin dAdd (qDR (qBin dAdd (qDR (qSlN 1 qO0 (qO1 (qVar 3)))) (qLook 4))) (qDR (qSlN 1 (qO1 (qVar 3)) qO0))))
    qNext) qNext)
    qNext))
    qNext)
abbrev q__law_puffed_s3 : QS := (qSeq (qSet 4 (qBin dIx (qTup (qCons (qC (.str "ss")) (qCons (qC (.str "vw")) (qCons (qC (.str "wv")) (qCons (qC (.str "www")) (qCons (qC (.str "vvv")) qNil)))))) (qDR (qCall pp__law_draw (qaN 0 (qaD (qC (.int 5)) (qaD (qC (.int 3)) qaNil)))))))
    q__law_puffed_s2)
abbrev q__law_puffed_cb1 : QS := (qSeq (qSet 3 (qCall pp__law_draw (qaN 0 (qaD (qDR (qBin dAdd (qDR (qCl cLen (qCons (qLook 1) qNil))) (qC (.int 1)))) (qaD (qC (.int 2)) qaNil)))))
    q__law_puffed_s3)
def q__law_puffed_b1 : QS := q__law_puffed_cb1
theorem q__law_puffed_b1_e (E : EndD) (ρ : List Sl) : q__law_puffed_b1 E ρ = q__law_puffed_cb1 E ρ := rfl
def q__law_puffed : QS := (qSeq (qFor (qRng1 (qCons (qDR (qCall pp__law_draw (qaN 0 (qaD (qC (.int 7)) (qaD (qC (.int 1)) qaNil))))) qNil)) (qgName 2) q__law_puffed_b1)
    q__law_puffed_k1)
def q__law_matrix : QS := (qSeq (qAsg (qTup (qCons (qC (.int 1)) (qCons (qC (.int 0)) (qCons (qC (.int 0)) (qCons (qC (.int 1)) qNil))))) (qgTup 4 (qgCons (qgName 1) (qgCons (qgName 2) (qgCons (qgName 3) (qgCons (qgName 4) qgNil))))))
    (qSeq (qFor (qItD (qVar 0)) (qgName 5) (qSeq (qIfS (qTst (qBinM dEq 5 (qC (.str "s")))) (qSeq (qAsg (qTup (qCons (qDR (qBin dSub (qC (.int 0)) (qLook 3))) (qCons (qDR (qBin dSub (qC (.int 0)) (qLook 4))) (qCons (qVar 1) (qCons (qVar 2) qNil))))) (qgTup 4 (qgCons (qgName 1) (qgCons (qgName 2) (qgCons (qgName 3) (qgCons (qgName 4) qgNil))))))
    qNext) (qSeq (qIfS (qTst (qBinM dEq 5 (qC (.str "w")))) (qSeq (qAsg (qTup (qCons (qDR (qBin dSub (qC (.int 0)) (qLook 3))) (qCons (qDR (qBin dSub (qC (.int 0)) (qLook 4))) (qCons (qDR (qBinM dAdd 1 (qLook 3))) (qCons (qDR (qBinM dAdd 2 (qLook 4))) qNil))))) (qgTup 4 (qgCons (qgName 1) (qgCons (qgName 2) (qgCons (qgName 3) (qgCons (qgName 4) qgNil))))))
    qNext) (qSeq (qAsg (qTup (qCons (qDR (qBin dSub (qDR (qBin dSub (qC (.int 0)) (qLook 1))) (qLook 3))) (qCons (qDR (qBin dSub (qDR (qBin dSub (qC (.int 0)) (qLook 2))) (qLook 4))) (qCons (qVar 1) (qCons (qVar 2) qNil))))) (qgTup 4 (qgCons (qgName 1) (qgCons (qgName 2) (qgCons (qgName 3) (qgCons (qgName 4) qgNil))))))
    qNext))
    qNext))
    qNext))
    (qSeq (qRet (qRD (qTup (qCons (qVar 1) (qCons (qVar 2) (qCons (qVar 3) (qCons (qVar 4) qNil)))))))
    qNext)))
def q__law_order : QS := (qSeq (qAsg (qVar 0) (qgTup 4 (qgCons (qgName 1) (qgCons (qgName 2) (qgCons (qgName 3) (qgCons (qgName 4) qgNil))))))
    (qSeq (qIfS (qAnd (qTst (qBinM dEq 2 (qC (.int 0)))) (qTst (qBinM dEq 3 (qC (.int 0))))) (qSeq (qRet (qRD (qC (.int 1))))
    qNext) qNext)
    (qSeq (qRet (qCget2 ([(.inl 0, .int 2), (.inl 1, .int 3)] : Kd) (qDR (qCl cAbs (qCons (qDR (qBinM dAdd 1 (qLook 4))) qNil))) (.none)))
    qNext)))
abbrev q__law_kept_ck1 : QS := (qSeq (qRet (qRD (qTup (qCons (qVar 6) (qCons (qVar 7) qNil)))))
    qNext)
def q__law_kept_k1 : QS := q__law_kept_ck1
theorem q__law_kept_k1_e (E : EndD) (ρ : List Sl) : q__law_kept_k1 E ρ = q__law_kept_ck1 E ρ := rfl
abbrev q__law_kept_s1 : QS := (qSeq (qIfS (qOr (qTst (qBinM dLt 7 (qC (.int 0)))) (qAnd (qTst (qBinM dEq 7 (qC (.int 0)))) (qTst (qBinM dLt 6 (qC (.int 0)))))) (qSeq (qPar 6 7 (qCons (qDR (qBin dSub (qC (.int 0)) (qLook 6))) (qCons (qDR (qBin dSub (qC (.int 0)) (qLook 7))) qNil)))
    qNext) qNext)
    q__law_kept_k1)
abbrev q__law_kept_ck2 : QS := (qSeq (qPar 6 7 (qCons (qDR (qBinM dFdiv 6 (qLook 8))) (qCons (qDR (qBinM dFdiv 7 (qLook 8))) qNil)))
    q__law_kept_s1)
def q__law_kept_k2 : QS := q__law_kept_ck2
theorem q__law_kept_k2_e (E : EndD) (ρ : List Sl) : q__law_kept_k2 E ρ = q__law_kept_ck2 E ρ := rfl
abbrev q__law_kept_s2 : QS := (qSeq (qPar 8 9 (qCons (qVar 9) (qCons (qDR (qBin dMod (qDR (qCl cInt (qCons (qLook 8) qNil))) (qLook 9))) qNil)))
    qNext)
abbrev q__law_kept_cb1 : QS := (qSeq (qIfS (qTst (qBinM dEq 9 (qC (.int 0)))) (qSeq qBrk
    qNext) qNext)
    q__law_kept_s2)
def q__law_kept_b1 : QS := q__law_kept_cb1
theorem q__law_kept_b1_e (E : EndD) (ρ : List Sl) : q__law_kept_b1 E ρ = q__law_kept_cb1 E ρ := rfl
abbrev q__law_kept_s3 : QS := (qSeq (qFor (qRng1 (qCons (qC (.int 2000)) qNil)) (qgName 10) q__law_kept_b1)
    q__law_kept_k2)
abbrev q__law_kept_ck3 : QS := (qSeq (qPar 8 9 (qCons (qDR (qCl cAbs (qCons (qLook 6) qNil))) (qCons (qDR (qCl cAbs (qCons (qLook 7) qNil))) qNil)))
    q__law_kept_s3)
def q__law_kept_k3 : QS := q__law_kept_ck3
theorem q__law_kept_k3_e (E : EndD) (ρ : List Sl) : q__law_kept_k3 E ρ = q__law_kept_ck3 E ρ := rfl
abbrev q__law_kept_s4 : QS := (qSeq (qIfS (qAnd (qTst (qBinM dEq 6 (qC (.int 0)))) (qTst (qBinM dEq 7 (qC (.int 0))))) (qSeq (qPar 6 7 (qCons (qDR (qBinM dSub 5 (qLook 4))) (qCons (qVar 3) qNil)))
    qNext) qNext)
    q__law_kept_k3)
abbrev q__law_kept_s5 : QS := (qSeq (qPar 6 7 (qCons (qVar 2) (qCons (qDR (qBinM dSub 5 (qLook 1))) qNil)))
    q__law_kept_s4)
abbrev q__law_kept_s6 : QS := (qSeq (qSet 5 (qIf (qTst (qBin dGt (qDR (qBinM dAdd 1 (qLook 4))) (qC (.int 0)))) (qRD (qC (.int 1))) (qRD (qNeg (qC (.int 1))))))
    q__law_kept_s5)
abbrev q__law_kept_s7 : QS := (qSeq (qIfS (qTst (qBin dNe (qDR (qCl cAbs (qCons (qDR (qBinM dAdd 1 (qLook 4))) qNil))) (qC (.int 2)))) (qSeq (qRet (qRD (qC .none)))
    qNext) qNext)
    q__law_kept_s6)
def q__law_kept : QS := (qSeq (qAsg (qVar 0) (qgTup 4 (qgCons (qgName 1) (qgCons (qgName 2) (qgCons (qgName 3) (qgCons (qgName 4) qgNil))))))
    q__law_kept_s7)
def q__law_same (pp_rec : PPr) : QS := (qSeq (qIfS (qTst (qBinM (dIs fun b => b) 1 (qC .none))) (qSeq (qRet (qBinM (dIs fun b => b) 0 (qC .none)))
    qNext) qNext)
    (qSeq (qIfS (qTru (qIsi "tuple" (qLook 1))) (qSeq (qIfS (qOr (qNot (qTru (qIsi "tuple" (qLook 0)))) (qTst (qBin dNe (qDR (qCl cLen (qCons (qLook 0) qNil))) (qDR (qCl cLen (qCons (qLook 1) qNil)))))) (qSeq (qRet (qRD (qC (.bool false))))
    qNext) qNext)
    (qSeq (qRet (qBin dEq (qDR (qCl cLen (qCons (qDR (qLc (qRng1 (qCons (qDR (qCl cLen (qCons (qLook 1) qNil))) qNil)) (qgName 2) (qNot (qTru (qDR (qCall pp_rec (qaD (qDR (qBinM dIx 0 (qLook 2))) (qaD (qDR (qBinM dIx 1 (qLook 2))) qaNil)))))) (qVar 2) [2])) qNil))) (qC (.int 0))))
    qNext)) qNext)
    (qSeq (qRet (qRD (qAndV (qIsi "int" (qLook 0)) (qAndV (qNotV (qIsi "bool" (qLook 0))) (qDR (qBinM dEq 0 (qLook 1)))))))
    qNext)))
abbrev q__law_asked_s1 : QS := (qSeq (qRet (qRD (qOrV (qDR (qBinM dEq 3 (qC (.int 1)))) (qDR (qCall pp__law_same (qaD (qDR (qIf (qTru (qVar 1)) (qCall pp_held_tangle (qReord [0] 1 (qaN 0 qaNil))) (qCall pp_held_tangle (qaN 0 qaNil)))) (qaD (qDR (qCall pp__law_kept (qaN 2 qaNil))) qaNil)))))))
    qNext)
abbrev q__law_asked_s2 : QS := (qSeq (qIfS (qNot (qTru (qDR (qCall pp__law_same (qaD (qDR (qIf (qTru (qVar 1)) (qCall pp_turn_order (qReord [0] 1 (qaN 0 qaNil))) (qCall pp_turn_order (qaN 0 qaNil)))) (qaN 3 qaNil)))))) (qSeq (qRet (qRD (qC (.bool false))))
    qNext) qNext)
    q__law_asked_s1)
abbrev q__law_asked_s3 : QS := (qSeq (qSet 3 (qCall pp__law_order (qaN 2 qaNil)))
    q__law_asked_s2)
def q__law_asked : QS := (qSeq (qSet 2 (qCall pp__law_matrix (qaN 0 qaNil)))
    q__law_asked_s3)
abbrev q__law_words_s1 : QS := (qSeq (qRet (qMove 3))
    qNext)
abbrev q__law_words_ck1 : QS := (qSeq (qDrop (qApp 3 (qDR (qCall pp__law_letters (qaN 0 (qaD (qDR (qCall pp__law_draw (qaN 0 (qaD (qC (.int 31)) (qaD (qC (.int 13)) qaNil))))) (qaD (qC (.int 14)) qaNil)))))))
    q__law_words_s1)
def q__law_words_k1 : QS := q__law_words_ck1
theorem q__law_words_k1_e (E : EndD) (ρ : List Sl) : q__law_words_k1 E ρ = q__law_words_ck1 E ρ := rfl
abbrev q__law_words_s2 : QS := (qSeq (qDrop (qApp 3 (qDR (qCall pp__law_puffed (qaN 0 (qaD (qDR (qBin dAdd (qDR (qBinM dAdd 5 (qLook 4))) (qDR (qCall pp__law_back (qaN 5 qaNil))))) qaNil))))))
    qNext)
abbrev q__law_words_cb1 : QS := (qSeq (qSet 5 (qCall pp__law_plain (qaN 0 (qaD (qDR (qIf (qTru (qVar 1)) (qBin dAdd (qC (.int 30)) (qDR (qCall pp__law_draw (qaN 0 (qaD (qC (.int 59)) (qaD (qC (.int 11)) qaNil)))))) (qCall pp__law_draw (qaN 0 (qaD (qC (.int 13)) (qaD (qC (.int 16)) qaNil)))))) qaNil))))
    q__law_words_s2)
def q__law_words_b1 : QS := q__law_words_cb1
theorem q__law_words_b1_e (E : EndD) (ρ : List Sl) : q__law_words_b1 E ρ = q__law_words_cb1 E ρ := rfl
abbrev q__law_words_s3 : QS := (qSeq (qFor (qItD (qVar 2)) (qgName 4) q__law_words_b1)
    q__law_words_k1)
abbrev q__law_words_s4 : QS := (qSeq (qSet 3 (qLst qNil))
    q__law_words_s3)
abbrev q__law_words_s5 : QS := (qSeq (qDrop (qApp 2 (qDR (qBin dAdd (qDR (qBin dMul (qC (.str "ws")) (qDR (qBin dAdd (qC (.int 1)) (qDR (qCall pp__law_draw (qaN 0 (qaD (qC (.int 6)) (qaD (qC (.int 9)) qaNil))))))))) (qDR (qBin dMul (qC (.str "vs")) (qDR (qBin dAdd (qC (.int 1)) (qDR (qCall pp__law_draw (qaN 0 (qaD (qC (.int 6)) (qaD (qC (.int 10)) qaNil)))))))))))))
    q__law_words_s4)
abbrev q__law_words_s6 : QS := (qSeq (qDrop (qApp 2 (qDR (qBin dMul (qDR (qBin dIx (qTup (qCons (qC (.str "sw")) (qCons (qC (.str "ws")) (qCons (qC (.str "sv")) (qCons (qC (.str "vs")) qNil))))) (qDR (qCall pp__law_draw (qaN 0 (qaD (qC (.int 4)) (qaD (qC (.int 7)) qaNil))))))) (qDR (qBin dAdd (qC (.int 1)) (qDR (qCall pp__law_draw (qaN 0 (qaD (qC (.int 9)) (qaD (qC (.int 8)) qaNil)))))))))))
    q__law_words_s5)
abbrev q__law_words_s7 : QS := (qSeq (qSet 2 (qLst (qCons (qC (.str "")) (qCons (qC (.str "s")) (qCons (qDR (qBin dIx (qTup (qCons (qC (.str "w")) (qCons (qC (.str "v")) qNil))) (qDR (qCall pp__law_draw (qaN 0 (qaD (qC (.int 2)) (qaD (qC (.int 6)) qaNil))))))) qNil)))))
    q__law_words_s6)
def q__law_words : QS := (qSeq (qSet 1 (qBin dNe (qDR (qCall pp__law_draw (qaN 0 (qaD (qC (.int 3)) (qaD (qC (.int 5)) qaNil))))) (qC (.int 1))))
    q__law_words_s7)
abbrev q_law_s1 : QS := (qSeq (qRet (qRD (qAndV (qDR (qCall pp__law_same (qaN 6 (qaD (qTup (qCons (qC .none) (qCons (qC (.int 2)) (qCons (qTup (qCons (qC (.int 0)) (qCons (qC (.int 1)) qNil))) (qCons (qTup (qCons (qC (.int 1)) (qCons (qC (.int 0)) qNil))) (qCons (qC .none) (qCons (qC .none) qNil))))))) qaNil)))) (qDR (qCall pp__law_asked (qaD (qDR (qBinM dIx 2 (qLook 3))) (qaD (qC (.bool true)) qaNil)))))))
    qNext)
abbrev q_law_ck1 : QS := (qSeq (qSet 6 (qRD (qTup (qCons (qDR (qCall pp_turn_order (qaD (qC (.str "sw")) qaNil))) (qCons (qDR (qCall pp_turn_order (qaD (qC (.str "vsw")) qaNil))) (qCons (qDR (qCall pp_held_tangle (qaD (qC (.str "sw")) qaNil))) (qCons (qDR (qCall pp_held_tangle (qaD (qC (.str "wsws")) qaNil))) (qCons (qDR (qCall pp_held_tangle (qaD (qC (.str "wsvs")) qaNil))) (qCons (qDR (qCall pp_held_tangle (qaD (qC (.str "s")) qaNil))) qNil)))))))))
    q_law_s1)
def q_law_k1 : QS := q_law_ck1
theorem q_law_k1_e (E : EndD) (ρ : List Sl) : q_law_k1 E ρ = q_law_ck1 E ρ := rfl
abbrev q_law_cb1 : QS := (qSeq (qIfS (qNot (qTru (qDR (qCall pp__law_asked (qaN 5 (qaD (qC (.bool false)) qaNil)))))) (qSeq (qRet (qRD (qC (.bool false))))
    qNext) qNext)
    qNext)
def q_law_b1 : QS := q_law_cb1
theorem q_law_b1_e (E : EndD) (ρ : List Sl) : q_law_b1 E ρ = q_law_cb1 E ρ := rfl
abbrev q_law_ck2 : QS := (qSeq (qFor (qItD (qTup (qCons (qC (.str "")) (qCons (qC (.str "s")) (qCons (qC (.str "v")) (qCons (qC (.str "w")) (qCons (qC (.str "ss")) (qCons (qC (.str "www")) (qCons (qC (.str "ws")) (qCons (qC (.str "sv")) (qCons (qC (.str "sw")) (qCons (qC (.str "vs")) (qCons (qC (.str "wsws")) (qCons (qC (.str "swsv")) (qCons (qC (.str "vsw")) (qCons (qC (.str "wsvs")) qNil)))))))))))))))) (qgName 5) q_law_b1)
    q_law_k1)
def q_law_k2 : QS := q_law_ck2
theorem q_law_k2_e (E : EndD) (ρ : List Sl) : q_law_k2 E ρ = q_law_ck2 E ρ := rfl
abbrev q_law_s2 : QS := (qSeq (qIfS (qAnd (qTst (qBin dLe (qDR (qCl cLen (qCons (qLook 5) qNil))) (qC (.int 100)))) (qNot (qTru (qDR (qCall pp__law_asked (qaD (qDR (qBinM dAdd 5 (qLook 5))) (qaD (qC (.bool false)) qaNil))))))) (qSeq (qRet (qRD (qC (.bool false))))
    qNext) qNext)
    qNext)
abbrev q_law_s3 : QS := (qSeq (qIfS (qOr (qNot (qTru (qDR (qCall pp__law_asked (qaN 5 (qaD (qDR (qBinM dEq 4 (qC (.int 1)))) qaNil)))))) (qNot (qTru (qDR (qCall pp__law_asked (qaD (qDR (qCall pp__law_back (qaN 5 qaNil))) (qaD (qDR (qBinM dEq 4 (qC (.int 2)))) qaNil))))))) (qSeq (qRet (qRD (qC (.bool false))))
    qNext) qNext)
    q_law_s2)
abbrev q_law_cb2 : QS := (qSeq (qSet 5 (qBinM dIx 2 (qDR (qBin dMod (qDR (qCl cInt (qCons (qDR (qBinM dAdd 3 (qLook 4))) qNil))) (qDR (qCl cLen (qCons (qLook 2) qNil)))))))
    q_law_s3)
def q_law_b2 : QS := q_law_cb2
theorem q_law_b2_e (E : EndD) (ρ : List Sl) : q_law_b2 E ρ = q_law_cb2 E ρ := rfl
abbrev q_law_s4 : QS := (qSeq (qFor (qRng1 (qCons (qDR (qCl cLen (qCons (qLook 2) qNil))) qNil)) (qgName 4) q_law_b2)
    q_law_k2)
abbrev q_law_s5 : QS := (qSeq (qSet 3 (qCall pp__law_draw (qaN 1 (qaD (qDR (qCl cLen (qCons (qLook 2) qNil))) (qaD (qC (.int 15)) qaNil)))))
    q_law_s4)
def q_law : QS := (qMake 1 good pp__law_jar (qaN 0 qaNil)
    (qSeq (qSet 2 (qCall pp__law_words (qaN 1 qaNil)))
    q_law_s5))
theorem len__law_draw : ∀ gs R, pp__law_draw gs R → ∃ ds : List D, gs = .j :: ds.map .d ∧ ds.length = ["many", "place"].length := by
  rintro gs R ⟨many, place, rfl, _⟩
  exact ⟨[.int many, .int place], rfl, rfl⟩
theorem divS {a b : Int} (h0 : 0 < b) (hb : b < 2 ^ 64) : CDivW a b := wide_div (b := 64) h0 (by omega) (by omega) (by omega)
theorem spec__law_draw : ∀ (ds : List D) R, pp__law_draw (.j :: ds.map .d) R → ∀ c, good c → q__law_draw ⟨fun _ => False, fun r ρ => ∃ d c', r = .da d ∧ R (.da d) ∧ good c' ∧ ρ[0]? = some (.jo c'), fun _ => False, fun _ => False⟩ (.jo c :: (ds.map .da ++ List.replicate (5 - ds.length - 1) .un)) := by
  rintro ds R ⟨many, place, hg, h1, h2, h3, h4, h⟩ c ⟨is, b1, b2, rfl, g0, g1, g2, g3, g4⟩
  match ds, hg with
  | [_, _], hg =>
    cases hg
    have fin : ∀ x, R (.da (.int (x % many))) := fun x => h _ (Int.emod_nonneg _ (by omega)) (Int.emod_lt_of_pos _ (by omega))
    have gd : ∀ (is : List Int) b1, is.length ≤ 63 → 0 ≤ b1 → b1 < 1999957 → good ⟨none, [.l (is.map .int), .d (.int b1), .d (.int b2)]⟩ := fun is b1 q1 q2 q3 => ⟨is, b1, b2, rfl, q1, q2, q3, g3, g4⟩
    have dv : ∀ x, CDivW x many := fun x => divS (by omega) (by omega)
    rcases List.eq_nil_or_concat is with rfl | ⟨L, i, rfl⟩
    · unfold q__law_draw
      walk_at "ev"
      have c0 := Int.emod_nonneg (b1 * 40009 + 1237) (show (1999957 : Int) ≠ 0 by decide)
      have c1 := Int.emod_lt_of_pos (b1 * 40009 + 1237) (show (0 : Int) < 1999957 by decide)
      have gn := gd [] _ (by decide) c0 c1
      split
      · exact ⟨h 0 (by decide) (by omega), gd [] b1 (by decide) g1 g2⟩
      · rw [if_neg (by decide)]
        refine ⟨mulL' (by omega) (by omega), by decide, mulL' (by omega) (by omega), mulL' (by omega) (by omega), by decide, by decide, ?_⟩
        split
        · split
          · exact ⟨h 0 (by decide) (by omega), gn⟩
          · exact ⟨h _ (by omega) (by omega), gn⟩
        · split
          · exact ⟨mulL' (by decide) (by decide), by omega, fin _, gn⟩
          · exact ⟨divS (by decide) (by decide), by omega, fin _, gn⟩
    · rw [List.concat_eq_append] at *
      have hL : L.length + 1 ≤ 63 := by simpa using g0
      unfold q__law_draw
      walk_at "ev"
      split
      · exact ⟨h 0 (by decide) (by omega), by have := gd (L ++ [i]) b1 g0 g1 g2; simpa using this⟩
      · rw [if_pos (by simp only [List.length_append, List.length_singleton]; omega)]
        split
        · exact ⟨dv _, Nat.lt_of_le_of_lt (show (L.map PyData.int).length ≤ 63 by rw [List.length_map]; omega) (by decide), by omega, fin _, by have := gd (L ++ [i / many]) b1 (by simp; omega) g1 g2; simpa using this⟩
        · exact ⟨by omega, fin _, gd L b1 (by omega) g1 g2⟩
theorem len__law_jar : ∀ gs R, pp__law_jar gs R → gs.length = 1 := by
  rintro gs R ⟨ns, rfl, _⟩; rfl
theorem cutD_in {ds : List D} {a b : Option Int} : (Zd.cutD ds a b).length ≤ ds.length ∧ ∀ d ∈ Zd.cutD ds a b, d ∈ ds := by
  unfold Zd.cutD
  refine ⟨?_, fun d h => List.mem_of_mem_drop (List.mem_of_mem_take h)⟩
  rw [List.length_take, List.length_drop]
  omega
theorem spec__law_jar : ∀ gs R, pp__law_jar gs R → q__law_jar R (startD 4 gs) := by
  rintro gs R ⟨ns, rfl, hl, h⟩
  unfold q__law_jar
  walk_at "ev"
  obtain ⟨u1, u2⟩ := cutD_in (ds := ns.map PyData.int) (a := none) (b := some 63)
  rw [List.length_map] at u1
  refine loop_of (fun ds ρ => ∃ (is : List Int) (b1 : Int) (x0 x y : Sl), ρ = [x0, .jo ⟨none, [.l (is.map .int), .d (.int b1), .d (.int 0)]⟩, x, y] ∧ is.length + ds.length ≤ 63 ∧ 0 ≤ b1 ∧ b1 < 1999957 ∧ ∀ d ∈ ds, ∃ i, d = .int i) ?_ ?_ _ _ ⟨[], _, _, _, _, rfl, ?_, by decide, by decide, ?_⟩
  · rintro ρ ⟨is, b1, x0, x, y, rfl, g0, g1, g2, _⟩
    walk_at "ev"
    exact ⟨mulL' (by omega) (by omega), by decide, h _ ⟨is, b1, _, rfl, by simpa using g0, g1, g2, Int.emod_nonneg _ (by decide), Int.emod_lt_of_pos _ (by decide)⟩⟩
  · rintro d ds ρ ⟨is, b1, x0, x, y, rfl, g0, g1, g2, hd⟩ ih
    obtain ⟨i, rfl⟩ := hd d (List.mem_cons_self ..)
    rw [List.length_cons] at g0
    have hd' : ∀ d ∈ ds, ∃ i, d = .int i := fun d h => hd d (List.mem_cons_of_mem _ h)
    have d0 : ∀ z : Int, 0 ≤ z % 1999957 := fun z => Int.emod_nonneg _ (by decide)
    have d1 : ∀ z : Int, z % 1999957 < 1999957 := fun z => Int.emod_lt_of_pos _ (by decide)
    walk_at "ev"
    have m2 : CMulA 2 i := mulL' (by decide) (by decide)
    have mb : CMulA b1 51637 := mulL' (by omega) (by omega)
    have p1 : CPowA 10 18 := ⟨by decide, by decide⟩
    have p2 : CPowA 10 60 := ⟨by decide, by decide⟩
    have p3 : CPowA (10 ^ Int.toNat 60) 9 := ⟨by decide, by decide⟩
    have p4 : (0 : Int) < (10 ^ Int.toNat 60) ^ Int.toNat 9 := Int.pow_pos (Int.pow_pos (by decide))
    have sz : (is.map PyData.int).length < sizeLine := by rw [List.length_map]; exact Nat.lt_of_le_of_lt (show is.length ≤ 63 by omega) (by decide)
    split
    all_goals
      refine ⟨m2, mb, by decide, by decide, p1, ?_⟩
      split
      · refine ⟨p2, p3, p4, sz, ih _ ⟨is ++ [_], _, _, _, _, by rw [List.map_append]; rfl, by rw [List.length_append, List.length_singleton]; omega, d0 _, d1 _, hd'⟩⟩
      · exact ih _ ⟨is, _, _, _, _, rfl, by omega, d0 _, d1 _, hd'⟩
  · rw [List.length_nil]; omega
  · intro d hd
    obtain ⟨i, _, rfl⟩ := List.mem_map.mp (u2 d hd)
    exact ⟨i, rfl⟩
theorem len_behind : ∀ gs R, pp_behind gs R → gs.length = 2 := by
  rintro gs R ⟨m, l, rfl, _⟩; rfl
theorem spec_behind : ∀ gs R, pp_behind gs R → q_behind (Ends0 R) (startD 10 gs) := by
  rintro gs R ⟨m, l, rfl, h⟩
  unfold q_behind mtD at *
  have e : ap m l = mul (mtL l) m := ap_mul m l
  rw [e] at h
  unfold mul at h
  have s : ∀ z : Int, CMulA (mtL l).a z ∧ CMulA (mtL l).b z ∧ CMulA (mtL l).c z ∧ CMulA (mtL l).d z := fun z => by
    cases l <;> exact ⟨mulL' (by decide) (by decide), mulL' (by decide) (by decide), mulL' (by decide) (by decide), mulL' (by decide) (by decide)⟩
  walk_at "ev"
  exact ⟨(s _).1, (s _).2.1, (s _).1, (s _).2.1, (s _).2.2.1, (s _).2.2.2, (s _).2.2.1, (s _).2.2.2, h⟩
theorem len_lowest : ∀ gs R, pp_lowest gs R → gs.length = 2 := by
  rintro gs R ⟨m, l, rfl, _⟩; rfl
theorem len__law_order : ∀ gs R, pp__law_order gs R → gs.length = 1 := by
  rintro gs R ⟨m, rfl, _⟩; rfl
theorem spec__law_order : ∀ gs R, pp__law_order gs R → q__law_order (Ends0 R) (startD 5 gs) := by
  rintro gs R ⟨m, rfl, h⟩
  unfold q__law_order mtD ordM at *
  walk_at "ev"
  generalize m.a + m.d = t at *
  have fl : ∀ x : D, (if (t.natAbs : Int) = 0 then some (PyData.int 2) else if (t.natAbs : Int) = 1 then some (PyData.int 3) else none).getD PyData.none = (if t = 0 then .int 2 else if t = 1 ∨ t = -1 then .int 3 else .none) := fun _ => by
    by_cases q0 : t = 0
    · subst q0; rfl
    · by_cases q1 : t = 1 ∨ t = -1
      · rw [if_neg (by omega), if_pos (by omega), if_neg q0, if_pos q1]; rfl
      · rw [if_neg (by omega), if_neg (by omega), if_neg q0, if_neg q1]; rfl
  rw [fl .none]
  have ff : (match (if t = 0 then PyData.int 2 else if t = 1 ∨ t = -1 then .int 3 else .none) with
          | PyData.none => true
          | PyData.bool b => true
          | PyData.int i => true
          | PyData.str s => true
          | x => false) = true := by
    split
    all_goals first | rfl | (rename_i z1 z2 z3 z4; exfalso; revert z1 z2 z3 z4; split <;> (try split) <;> simp)
  by_cases b0 : m.b = 0
  · rw [if_pos b0]
    by_cases c0 : m.c = 0
    · rw [if_pos c0]
      rw [if_pos ⟨b0, c0⟩] at h
      exact h
    · rw [if_neg c0]
      rw [if_neg (fun z => c0 z.2)] at h
      exact ⟨ff, h⟩
  · rw [if_neg b0]
    rw [if_neg (fun z => b0 z.1)] at h
    exact ⟨ff, h⟩
theorem spec_lowest : ∀ gs R, pp_lowest gs R → q_lowest (Ends0 R) (startD 3 gs) := by
  rintro gs R ⟨p, q, rfl, hq, hp1, hq1, h⟩
  have g0 : 0 < Int.gcd p q := Int.gcd_pos_of_ne_zero_right _ hq
  have g1 : Int.gcd p q ≤ q.natAbs := Nat.le_of_dvd (by omega) (Nat.gcd_dvd_right ..)
  have dv : ∀ x, CDivW x (Int.gcd p q) := fun x => wide_div (b := 400) (by omega) (Nat.lt_of_le_of_lt (show ((Int.gcd p q : Nat) : Int).natAbs ≤ q.natAbs by omega) hq1) (by omega) (by omega)
  unfold q_lowest prD lowP at *
  walk_at "ev"
  rw [if_neg hq] at h ⊢
  split
  · rename_i z
    rw [if_pos z] at h
    exact ⟨dv _, dv _, h⟩
  · rename_i z
    rw [if_neg z] at h
    exact ⟨dv _, dv _, h⟩
theorem tx_items (u : List Lt) : List.map sgn (tx u).cps.toList = u.map fun l => PyData.str (tx [l]) := by
  show List.map sgn ((u.map Lt.code).toArray).toList = _
  rw [List.toList_toArray, List.map_map]
  rfl
def Bd (k : Nat) (m : Mt) : Prop := m.a.natAbs ≤ 2 ^ k ∧ m.b.natAbs ≤ 2 ^ k ∧ m.c.natAbs ≤ 2 ^ k ∧ m.d.natAbs ≤ 2 ^ k
theorem bd_ap {k : Nat} {m : Mt} (h : Bd k m) (l : Lt) : Bd (k + 1) (ap m l) := by
  unfold Bd at *
  rw [Nat.pow_succ]
  generalize 2 ^ k = p at *
  cases m
  cases l <;> simp only [ap] at * <;> omega
theorem tx_row (l : Lt) : Tb.at tb_ROWS (tx [l]) = some (mtD (mtL l)) := by
  cases l <;> rfl
theorem len_held_tangle : ∀ gs R, pp_held_tangle gs R → gs.length = 1 := by
  rintro gs R ⟨u, rfl, _⟩; rfl
theorem spec_held_tangle : ∀ gs R, pp_held_tangle gs R → q_held_tangle (Ends0 R) (startD 7 gs) := by
  rintro gs R ⟨u, rfl, hu, h⟩
  unfold q_held_tangle
  walk_at "ev"
  rw [tx_items]
  refine loop_of (fun ds ρ => ∃ (r : List Lt) (m : Mt) (x0 x2 x3 x4 x5 x6 : Sl), ds = r.map (fun l => PyData.str (tx [l])) ∧ ρ = [x0, .da (mtD m), x2, x3, x4, x5, x6] ∧ r.foldl ap m = mat u ∧ Bd (200 - r.length) m ∧ r.length ≤ 200) ?_ ?_ _ _ ⟨u, one, _, _, _, _, _, _, rfl, rfl, rfl, ?_, hu⟩
  · rintro ρ ⟨r, m, x0, x2, x3, x4, x5, x6, hr, rfl, hm, hb, _⟩
    cases r with
    | cons l r => cases hr
    | nil =>
      have hm : m = mat u := hm
      subst hm
      generalize mat u = m at *
      unfold heldD mtD at *
      walk_at "ev"
      have e200 : (2 : Nat) ^ (200 - ([] : List Lt).length) < 2 ^ 300 := by decide
      have e400 : (2 : Nat) ^ 300 * 4 < 2 ^ 400 := by decide
      obtain ⟨k1, k2, k3, k4⟩ := hb
      by_cases t : m.a + m.d = 2 ∨ m.a + m.d = -2
      · rw [if_pos t] at h
        rw [if_neg (by omega)]
        by_cases c0 : m.c = 0
        · rw [if_pos c0] at h ⊢
          exact h
        · rw [if_neg c0] at h ⊢
          refine ⟨mulL' (by decide) (by decide), _, _, rfl, by omega, by omega, by omega, ?_⟩
          unfold prD at h ⊢
          walk_at "ev"
          exact h
      · rw [if_neg t] at h
        rw [if_pos (by omega)]
        exact h
  · rintro d ds ρ ⟨r, m, x0, x2, x3, x4, x5, x6, hr, rfl, hm, hb, hl⟩ ih
    cases r with
    | nil => cases hr
    | cons l r =>
      cases hr
      walk_at "ev"
      refine ⟨_, tx_row l, m, l, rfl, ?_⟩
      unfold mtD
      walk_at "ev"
      rw [List.length_cons] at hl hb
      exact ih _ ⟨r, ap m l, _, _, _, _, _, _, rfl, rfl, hm, by have := bd_ap hb l; rwa [show 200 - (r.length + 1) + 1 = 200 - r.length by omega] at this, by omega⟩
  · have : Bd 0 one := by unfold Bd one; decide
    obtain ⟨h1, h2, h3, h4⟩ := this
    have p : 2 ^ 0 ≤ 2 ^ (200 - u.length) := Nat.pow_le_pow_right (by decide) (by omega)
    exact ⟨by omega, by omega, by omega, by omega⟩
theorem len__law_matrix : ∀ gs R, pp__law_matrix gs R → gs.length = 1 := by
  rintro gs R ⟨u, rfl, _⟩; rfl
theorem spec__law_matrix : ∀ gs R, pp__law_matrix gs R → q__law_matrix (Ends0 R) (startD 6 gs) := by
  rintro gs R ⟨u, rfl, hu, h⟩
  unfold q__law_matrix
  walk_at "ev"
  rw [tx_items]
  refine loop_of (fun ds ρ => ∃ (r : List Lt) (m : Mt) (x0 x5 : Sl), ds = r.map (fun l => PyData.str (tx [l])) ∧ ρ = [x0, .da (.int m.a), .da (.int m.b), .da (.int m.c), .da (.int m.d), x5] ∧ r.foldl ap m = mat u) ?_ ?_ _ _ ⟨u, one, _, _, rfl, rfl, rfl⟩
  · rintro ρ ⟨r, m, x0, x5, hr, rfl, hm⟩
    cases r with
    | cons l r => cases hr
    | nil =>
      have hm : m = mat u := hm
      subst hm
      unfold mtD at h
      walk_at "ev"
      exact h
  · rintro d ds ρ ⟨r, m, x0, x5, hr, rfl, hm⟩ ih
    cases r with
    | nil => cases hr
    | cons l r =>
      cases hr
      have go : ∀ m', ap m l = m' → loopD _ _ _ (r.map fun l => PyData.str (tx [l])) [x0, .da (.int m'.a), .da (.int m'.b), .da (.int m'.c), .da (.int m'.d), .da (.str (tx [l]))] := fun m' e => ih _ ⟨r, m', _, _, rfl, rfl, by rw [← e]; exact hm⟩
      cases l
      · walk_at "ev"
        rw [if_pos (by decide)]
        exact go ⟨_, _, _, _⟩ (by simp [ap, Int.zero_sub])
      · walk_at "ev"
        rw [if_neg (by decide), if_pos (by decide)]
        exact go ⟨_, _, _, _⟩ (by simp [ap, Int.zero_sub])
      · walk_at "ev"
        rw [if_neg (by decide), if_neg (by decide)]
        exact go ⟨_, _, _, _⟩ (by simp [ap, Int.zero_sub])
theorem tx_strs : ∀ u : List Lt, strsD (u.map fun l => PyData.str (tx [l])) = some (u.map fun l => tx [l])
  | [] => rfl
  | l :: u => by
    have := tx_strs u
    simp only [List.map_cons]
    unfold strsD
    rw [this]
    rfl
theorem tx_sjoin : ∀ u : List Lt, Str.join (Str.ofString "") (u.map fun l => tx [l]) = tx u
  | [] => rfl
  | [l] => rfl
  | l :: k :: u => by
    have ih := tx_sjoin (k :: u)
    show tx [l] ++ Str.ofString "" ++ Str.join (Str.ofString "") ((k :: u).map fun l => tx [l]) = _
    rw [ih]
    show (⟨(#[l.code] ++ #[]) ++ ((k :: u).map Lt.code).toArray⟩ : Str) = ⟨((l :: k :: u).map Lt.code).toArray⟩
    congr 1
    apply Array.ext'
    simp
theorem tx_join (u : List Lt) : Txt.join (Str.ofString "") (u.map fun l => tx [l]) = tx u := by
  exact (PySem.StrLaws.glued_eq_join _ _).trans (tx_sjoin u)
theorem tx_sum (u : List Lt) : ((u.map fun l => tx [l]).map (·.length)).sum = u.length := by
  induction u with
  | nil => rfl
  | cons l u ih =>
    rw [List.map_cons, List.map_cons, List.sum_cons, ih, List.length_cons]
    show 1 + u.length = _
    omega
theorem len__law_letters : ∀ gs R, pp__law_letters gs R → gs.length = 3 := by
  rintro gs R ⟨a, b, rfl, _⟩; rfl
theorem rangeD_int : ∀ (n : Nat) (lo : Int), ∀ d ∈ rangeD lo n, ∃ i, d = PyData.int i
  | 0, _, d, h => by cases h
  | n + 1, lo, d, h => by
    rcases List.mem_cons.mp h with rfl | h
    · exact ⟨lo, rfl⟩
    · exact rangeD_int n _ d h
theorem svw_at {r : Int} (h0 : 0 ≤ r) (h1 : r < 3) : ∃ c l, atI (Str.ofString "svw").cps.toList r = some c ∧ (⟨#[c]⟩ : Str) = tx [l] := by
  have : r = 0 ∨ r = 1 ∨ r = 2 := by omega
  rcases this with rfl | rfl | rfl
  · exact ⟨115, .s, by rfl, rfl⟩
  · exact ⟨118, .v, by rfl, rfl⟩
  · exact ⟨119, .w, by rfl, rfl⟩
theorem spec__law_letters : ∀ gs R, pp__law_letters gs R → q__law_letters (Ends0 R) (startD 4 gs) := by
  rintro gs R ⟨many, place, rfl, h0, h1, h2, h3, h⟩
  unfold q__law_letters
  walk_at "ev"
  refine ⟨by omega, by omega, ?_⟩
  refine lc_of (fun ds acc => ∃ u : List Lt, acc = u.map (fun l => PyData.str (tx [l])) ∧ ((u.length : Int) + ds.length = many) ∧ ∀ d ∈ ds, ∃ i, d = .int i) ?_ ?_ _ _ ⟨[], rfl, ?_, ?_⟩
  · rintro acc ⟨u, rfl, hu, _⟩
    have hu' : (u.length : Int) = many := by simpa using hu
    refine ⟨_, tx_strs u, ?_, ?_⟩
    · rw [tx_sum, show (Str.ofString "").length = 0 by decide]
      omega
    · rw [tx_join]
      exact h u hu'
  · rintro d ds acc ⟨u, rfl, hu, hd⟩ ih
    obtain ⟨i, rfl⟩ := hd d (List.mem_cons_self ..)
    rw [List.length_cons] at hu
    walk_at "ev"
    refine ⟨_, _, rfl, by decide, by decide, h2, h3, fun r r0 r1 => ?_⟩
    obtain ⟨c, l, hc, hl⟩ := svw_at r0 r1
    walk_at "ev"
    refine ⟨by decide, c, hc, ?_⟩
    rw [hl]
    exact ⟨Nat.lt_of_le_of_lt (show (u.map fun l => PyData.str (tx [l])).length ≤ 200 by rw [List.length_map]; omega) (by decide), ih _ ⟨u ++ [l], by rw [List.map_append]; rfl, by rw [List.length_append, List.length_singleton]; omega, fun d h => hd d (List.mem_cons_of_mem _ h)⟩⟩
  · rw [rangeD_len]
    simp
    omega
  · exact rangeD_int _ _
theorem len__law_plain : ∀ gs R, pp__law_plain gs R → gs.length = 2 := by
  rintro gs R ⟨a, rfl, _⟩; rfl
theorem vw_at {r : Int} (h0 : 0 ≤ r) (h1 : r < 2) : ∃ c l, atI (Str.ofString "vw").cps.toList r = some c ∧ (⟨#[c]⟩ : Str) = tx [l] := by
  have : r = 0 ∨ r = 1 := by omega
  rcases this with rfl | rfl
  · exact ⟨118, .v, by rfl, rfl⟩
  · exact ⟨119, .w, by rfl, rfl⟩
theorem spec__law_plain : ∀ gs R, pp__law_plain gs R → q__law_plain (Ends0 R) (startD 4 gs) := by
  rintro gs R ⟨many, rfl, h0, h1, h⟩
  unfold q__law_plain
  walk_at "ev"
  refine ⟨_, _, rfl, by decide, by decide, by decide, by decide, fun first _ _ => ?_⟩
  walk_at "ev"
  refine ⟨by omega, by omega, ?_⟩
  refine lc_of (fun ds acc => ∃ u : List Lt, acc = u.map (fun l => PyData.str (tx [l])) ∧ ((u.length : Int) + ds.length = many) ∧ ∀ d ∈ ds, ∃ i, d = .int i) ?_ ?_ _ _ ⟨[], rfl, ?_, ?_⟩
  · rintro acc ⟨u, rfl, hu, _⟩
    have hu' : (u.length : Int) = many := by simpa using hu
    refine ⟨_, tx_strs u, ?_, ?_⟩
    · rw [tx_sum, show (Str.ofString "").length = 0 by decide]
      omega
    · rw [tx_join]
      exact h u hu'
  · rintro d ds acc ⟨u, rfl, hu, hd⟩ ih
    obtain ⟨i, rfl⟩ := hd d (List.mem_cons_self ..)
    rw [List.length_cons] at hu
    have sz : (u.map fun l => PyData.str (tx [l])).length < sizeLine := Nat.lt_of_le_of_lt (show (u.map fun l => PyData.str (tx [l])).length ≤ 200 by rw [List.length_map]; omega) (by decide)
    have go : ∀ (x : D) l, x = .str (tx [l]) → ∃ u' : List Lt, (u.map (fun l => PyData.str (tx [l])) ++ [x]) = u'.map (fun l => PyData.str (tx [l])) ∧ ((u'.length : Int) + ds.length = many) ∧ ∀ d ∈ ds, ∃ i, d = .int i :=
      fun x l e => ⟨u ++ [l], by rw [e, List.map_append]; rfl, by rw [List.length_append, List.length_singleton]; omega, fun d h => hd d (List.mem_cons_of_mem _ h)⟩
    walk_at "ev"
    refine ⟨by decide, ?_⟩
    split
    · exact ⟨sz, ih _ (go _ .s (by rfl))⟩
    · refine ⟨_, _, rfl, by decide, by decide, by decide, by decide, fun r r0 r1 => ?_⟩
      obtain ⟨c, l, hc, hl⟩ := vw_at r0 r1
      walk_at "ev"
      exact ⟨by decide, c, hc, sz, ih _ (go _ l (by rw [hl]))⟩
  · rw [rangeD_len]
    simp
    omega
  · exact rangeD_int _ _
theorem len__law_back : ∀ gs R, pp__law_back gs R → gs.length = 1 := by
  rintro gs R ⟨a, rfl, _⟩; rfl
theorem tx_rev (u : List Lt) : revS (tx u) = tx u.reverse := by
  unfold revS tx
  rw [List.toList_toArray, List.map_reverse]
theorem tx_len (u : List Lt) : (tx u).length = u.length := by
  show ((u.map Lt.code).toArray).size = _
  rw [List.size_toArray, List.length_map]
theorem spec__law_back : ∀ gs R, pp__law_back gs R → q__law_back (Ends0 R) (startD 2 gs) := by
  rintro gs R ⟨u, rfl, hu, h⟩
  unfold q__law_back
  walk_at "ev"
  rw [tx_rev, tx_items]
  have hw : u.reverse.length ≤ 200 := by rw [List.length_reverse]; exact hu
  generalize u.reverse = w at *
  refine ⟨Nat.le_trans (by rw [tx_len]; exact hu) (show 200 ≤ sizeLine by decide), ?_⟩
  refine lc_of (fun ds acc => ∃ a b : List Lt, a ++ b = w ∧ ds = b.map (fun l => PyData.str (tx [l])) ∧ acc = (a.map inv).map (fun l => PyData.str (tx [l]))) ?_ ?_ _ _ ⟨[], w, rfl, rfl, rfl⟩
  · rintro acc ⟨a, b, hab, hb, rfl⟩
    cases b with
    | cons l b => cases hb
    | nil =>
      rw [List.append_nil] at hab
      subst hab
      refine ⟨_, tx_strs _, ?_, ?_⟩
      · rw [tx_sum, show (Str.ofString "").length = 0 by decide, List.length_map]
        omega
      · rw [tx_join]
        exact h
  · rintro d ds acc ⟨a, b, hab, hb, rfl⟩ ih
    cases b with
    | nil => cases hb
    | cons l b =>
      cases hb
      have sz : ((a.map inv).map fun l => PyData.str (tx [l])).length < sizeLine := Nat.lt_of_le_of_lt (show _ ≤ 200 by rw [List.length_map, List.length_map]; have := congrArg List.length hab; rw [List.length_append] at this; omega) (by decide)
      have go := ih _ ⟨a ++ [l], b, by rw [List.append_assoc]; exact hab, rfl, rfl⟩
      rw [List.map_append, List.map_append] at go
      walk_at "ev"
      cases l
      · exact ⟨0, [], by decide +kernel, by decide, 115, by rfl, sz, go⟩
      · exact ⟨1, [], by decide +kernel, by decide, 118, by rfl, sz, go⟩
      · exact ⟨2, [], by decide +kernel, by decide, 119, by rfl, sz, go⟩
theorem len__law_kept : ∀ gs R, pp__law_kept gs R → gs.length = 1 := by
  rintro gs R ⟨a, rfl, _⟩; rfl
theorem len__law_asked : ∀ gs R, pp__law_asked gs R → gs.length = 2 := by
  rintro gs R ⟨a, b, rfl, _⟩; rfl
theorem len__law_words : ∀ gs R, pp__law_words gs R → gs.length = 1 := by
  rintro gs R ⟨rfl, _⟩; rfl
theorem len__law_puffed : ∀ gs R, pp__law_puffed gs R → gs.length = 2 := by
  rintro gs R ⟨a, rfl, _⟩; rfl
theorem len_reduced : ∀ gs R, pp_reduced gs R → gs.length = 1 := by
  rintro gs R ⟨a, rfl, _⟩; rfl
theorem len_turn_order : ∀ gs R, pp_turn_order gs R → gs.length = 1 := by
  rintro gs R ⟨a, rfl, _⟩; rfl
theorem len__law_same : ∀ kk gs R, ppr__law_same kk gs R → gs.length = 2 := by
  intro kk gs R h
  cases kk with
  | zero => exact h.elim
  | succ k => obtain ⟨d, rfl, _⟩ := h; rfl
theorem ord_eq (u : List Lt) : ordW u = ordM (mat u) := by
  have hd := mat_det u
  unfold ordW ordM
  by_cases h1 : redr u = []
  · have := (one_iff hd).mp ((red_nil u).mp h1)
    rw [if_pos h1, if_pos this]
  · have n1 : ¬ Eqs (mat u) one := fun e => h1 ((red_nil u).mpr e)
    have n1' : ¬ ((mat u).b = 0 ∧ (mat u).c = 0) := fun e => n1 ((one_iff hd).mpr e)
    rw [if_neg h1, if_neg n1']
    have e2 : redr (u ++ u) = [] ↔ (mat u).a + (mat u).d = 0 := by rw [red_nil, mat_app]; exact two_iff hd n1
    have e3 : redr (u ++ (u ++ u)) = [] ↔ ((mat u).a + (mat u).d = 1 ∨ (mat u).a + (mat u).d = -1) := by
      rw [red_nil, mat_app, mat_app, mul_assoc]; exact three_iff hd n1
    by_cases h2 : (mat u).a + (mat u).d = 0
    · rw [if_pos (e2.mpr h2), if_pos h2]
    · rw [if_neg (fun z => h2 (e2.mp z)), if_neg h2]
      by_cases h3 : ((mat u).a + (mat u).d = 1 ∨ (mat u).a + (mat u).d = -1)
      · rw [if_pos (e3.mpr h3), if_pos h3]
      · rw [if_neg (fun z => h3 (e3.mp z)), if_neg h3]
theorem tx_rep (u : List Lt) (k : Nat) : repS (tx u) k = tx (List.replicate k u).flatten := by
  unfold repS tx
  rw [List.toList_toArray, List.map_flatten, List.map_replicate]
theorem tx_empty (r : List Lt) : (tx r.reverse = Str.ofString "") ↔ r = [] := by
  refine ⟨fun h => ?_, fun h => by rw [h]; rfl⟩
  have := congrArg Str.length h
  rw [tx_len, List.length_reverse] at this
  exact List.eq_nil_of_length_eq_zero this
theorem spec_turn_order : ∀ gs R, pp_turn_order gs R → q_turn_order (Ends0 R) (startD 2 gs) := by
  rintro gs R ⟨u, rfl, hu, h⟩
  have len : (tx u).length ≤ 200 := by rw [tx_len]; exact hu
  have r1 : repS (tx u) (Int.toNat 1) = tx u := by rw [tx_rep]; simp
  have r2 : repS (tx u) (Int.toNat 2) = tx (u ++ u) := by rw [tx_rep]; simp
  have r3 : repS (tx u) (Int.toNat 3) = tx (u ++ (u ++ u)) := by rw [tx_rep]; simp
  unfold q_turn_order
  unfold ordW at h
  walk_at "un"
  rw [r1]
  refine ⟨by decide, by decide, show (tx u).length * 1 ≤ 1000000 by omega, u, rfl, by omega, ?_⟩
  walk_at "un"
  simp only [tx_empty]
  split
  · rename_i z
    rw [if_pos z] at h
    exact h
  · rename_i z
    rw [if_neg z] at h
    rw [r2]
    refine ⟨by decide, by decide, show (tx u).length * 2 ≤ 1000000 by omega, u ++ u, rfl, by rw [List.length_append]; omega, ?_⟩
    walk_at "un"
    simp only [tx_empty]
    split
    · rename_i z
      rw [if_pos z] at h
      exact h
    · rename_i z
      rw [if_neg z] at h
      rw [r3]
      refine ⟨by decide, by decide, show (tx u).length * 3 ≤ 1000000 by omega, u ++ (u ++ u), rfl, by rw [List.length_append, List.length_append]; omega, ?_⟩
      walk_at "un"
      simp only [tx_empty]
      split
      · rename_i z
        rw [if_pos z] at h
        exact h
      · rename_i z
        rw [if_neg z] at h
        exact h
theorem atI_last {α : Type} (xs : List α) (x : α) : atI (xs ++ [x]) (-1) = some x := by
  unfold atI ixN
  rw [if_neg (by decide), if_pos (by rw [List.length_append, List.length_singleton]; omega)]
  show (xs ++ [x])[(-1 + ((xs ++ [x]).length : Int)).toNat]? = some x
  rw [List.length_append, List.length_singleton, show (-1 + ((xs.length + 1 : Nat) : Int)).toNat = xs.length by omega]
  simp
theorem prod_at (t k : Lt) : Tb.at tb_PRODUCTS (tx [t, k]) = (mulL t k).map (fun o => PyData.str (tx o.toList)) := by
  cases t <;> cases k <;> rfl
theorem spec_reduced : ∀ gs R, pp_reduced gs R → q_reduced (Ends0 R) (startD 3 gs) := by
  rintro gs R ⟨u, rfl, hu, h⟩
  unfold q_reduced
  walk_at "ev"
  rw [tx_items]
  refine loop_of (fun ds ρ => ∃ (r st : List Lt) (x0 x2 : Sl), ds = r.map (fun l => PyData.str (tx [l])) ∧ ρ = [x0, .ow (st.reverse.map fun l => PyData.str (tx [l])), x2] ∧ r.foldl push st = redr u ∧ r.length + st.length ≤ 700) ?_ ?_ _ _ ⟨u, [], _, _, rfl, rfl, rfl, by simpa using hu⟩
  · rintro ρ ⟨r, st, x0, x2, hr, rfl, hm, hz⟩
    cases r with
    | cons l r => cases hr
    | nil =>
      have hm : st = redr u := hm
      subst hm
      walk_at "ev"
      refine ⟨_, tx_strs _, ?_, ?_⟩
      · rw [tx_sum, show (Str.ofString "").length = 0 by decide, List.length_reverse]
        simp only [List.length_nil] at hz
        omega
      · rw [tx_join]
        exact h
  · rintro d ds ρ ⟨r, st, x0, x2, hr, rfl, hm, hl⟩ ih
    cases r with
    | nil => cases hr
    | cons l r =>
      cases hr
      rw [List.length_cons] at hl
      walk_at "ev"
      refine while_of (fun m ρ => ∃ (st' o : List Lt), ρ = [x0, .ow (st'.reverse.map fun l => PyData.str (tx [l])), .da (.str (tx o))] ∧ ((o = [] ∧ st' = push st l) ∨ ∃ k, o = [k] ∧ push st' k = push st l) ∧ st'.length + o.length ≤ st.length + 1 ∧ m = st'.length) st.length ⟨st, [l], rfl, .inr ⟨l, rfl, rfl⟩, by simp, rfl⟩ ?_
      rintro m ρ ⟨st', o, rfl, ho, hlen, rfl⟩
      have fin : ∀ st2 x2, st2 = push st l → st2.length ≤ st.length + 1 → loopD (qgName 2) _ _ (r.map fun l => PyData.str (tx [l])) [x0, .ow (st2.reverse.map fun l => PyData.str (tx [l])), x2] := fun st2 x2 e hle =>
        ih _ ⟨r, st2, _, _, rfl, rfl, by rw [e]; exact hm, by omega⟩
      have ne : ∀ k : Lt, ¬ tx [k] = Str.ofString "" := fun k => by cases k <;> decide
      rcases ho with ⟨rfl, rfl⟩ | ⟨k, rfl, hk⟩
      · walk_at "ev"
        have e0 : tx [] = Str.ofString "" := rfl
        rw [if_neg (fun z => z e0), if_neg (fun z => z e0)]
        exact fin _ _ rfl (by simpa using hlen)
      · rw [List.length_singleton] at hlen
        cases st' with
        | nil =>
          walk_at "ev"
          rw [if_pos (ne k), if_neg (by decide), if_pos (ne k)]
          exact ⟨by decide, fin [k] _ hk (by simp)⟩
        | cons t s =>
          have er : ((t :: s).reverse.map fun l => PyData.str (tx [l])) = (s.reverse.map fun l => PyData.str (tx [l])) ++ [.str (tx [t])] := by simp
          rw [er]
          have ea : atI ((s.reverse.map fun l => PyData.str (tx [l])) ++ [.str (tx [t])]) (-1) = some (.str (tx [t])) := atI_last _ _
          have ek : tx [t] ++ tx [k] = tx [t, k] := rfl
          rw [List.length_cons] at hlen
          have l2 : (tx [t]).length + (tx [k]).length ≤ sizeLine := by rw [tx_len, tx_len]; show 2 ≤ sizeLine; decide
          walk_at "ev"
          rw [if_pos (ne k), if_pos (by rw [List.length_append, List.length_singleton]; omega)]
          refine ⟨_, ea, l2, ?_⟩
          rw [ek, prod_at]
          cases hmul : mulL t k with
          | none =>
            have pk : push (t :: s) k = k :: t :: s := by unfold push; rw [hmul]
            rw [if_neg (by simp), if_pos (ne k)]
            have el : (s.reverse.map fun l => PyData.str (tx [l])) ++ [.str (tx [t])] ++ [.str (tx [k])] = (k :: t :: s).reverse.map fun l => PyData.str (tx [l]) := by simp
            have f := fin (k :: t :: s) (.da (.str (tx [k]))) (pk.symm.trans hk) (by rw [List.length_cons, List.length_cons]; omega)
            rw [← el] at f
            exact ⟨Nat.lt_of_le_of_lt (show _ ≤ 800 by rw [List.length_append, List.length_map, List.length_reverse, List.length_singleton]; omega) (by decide), f⟩
          | some o =>
            rw [if_pos (by simp)]
            cases o with
            | none =>
              have pk : push (t :: s) k = s := by unfold push; rw [hmul]
              exact ⟨l2, _, rfl, s.length, by omega, s, rfl, [], rfl, .inl ⟨rfl, pk.symm.trans hk⟩, by rw [List.length_nil]; omega, rfl⟩
            | some m =>
              have pk : push (t :: s) k = push s m := by conv => lhs; unfold push; rw [hmul]
              exact ⟨l2, _, rfl, s.length, by omega, s, rfl, [m], rfl, .inr ⟨m, rfl, pk.symm.trans hk⟩, by rw [List.length_singleton]; omega, rfl⟩
theorem cmp_kind : ∀ {k : Nat} {d : D}, Cmp k d → d = .none ∨ (∃ i, d = .int i) ∨ ∃ ds j, d = .tuple ds ∧ k = j + 1 ∧ ds.length ≤ 10 ∧ ∀ x ∈ ds, Cmp j x
  | 0, d, h => h.elim .inl fun z => .inr (.inl z)
  | k + 1, d, h => by
    rcases h with h | ⟨ds, h1, h2, h3⟩
    · rcases cmp_kind h with z | z | ⟨ds, j, z1, z2, z3, z4⟩
      · exact .inl z
      · exact .inr (.inl z)
      · subst z2
        exact .inr (.inr ⟨ds, j + 1, z1, rfl, z3, fun x hx => .inl (z4 x hx)⟩)
    · exact .inr (.inr ⟨ds, k, h1, rfl, h2, h3⟩)
theorem spec__law_same : ∀ kk gs R, ppr__law_same (kk + 1) gs R → q__law_same (ppr__law_same kk) (Ends0 R) (startD 3 gs) := by
  rintro kk gs R ⟨d, rfl, hd, h⟩
  unfold q__law_same
  rcases cmp_kind hd with rfl | ⟨i, rfl⟩ | ⟨ds, j, rfl, rfl, hl, hx⟩
  · walk_at "ev"
    exact h
  · walk_at "ev"
    exact h
  · walk_at "ev"
    refine ⟨by omega, by omega, ?_⟩
    rw [show ((ds.length : Int)).toNat = ds.length by omega]
    refine lc_of (fun l acc => acc = [] ∧ ∀ d ∈ l, ∃ i : Int, d = .int i ∧ 0 ≤ i ∧ i < ds.length) ?_ ?_ _ _ ⟨rfl, ?_⟩
    · rintro acc ⟨rfl, _⟩
      exact h
    · rintro d l acc ⟨rfl, hd⟩ ih
      obtain ⟨i, rfl, i0, i1⟩ := hd d (List.mem_cons_self ..)
      have hd' : ∀ d ∈ l, ∃ i : Int, d = .int i ∧ 0 ≤ i ∧ i < ds.length := fun d h => hd d (List.mem_cons_of_mem _ h)
      obtain ⟨x, ex, mx, _⟩ := atI_of i0 i1
      have cx := hx x mx
      walk_at "ev"
      rw [ex]
      walk_at "ev"
      refine ⟨x, rfl, cx, ?_⟩
      walk_at "ev"
      exact ih _ ⟨rfl, hd'⟩
    · have all : ∀ (n : Nat) (lo : Int), 0 ≤ lo → lo + n ≤ ds.length → ∀ d ∈ rangeD lo n, ∃ i : Int, d = .int i ∧ 0 ≤ i ∧ i < ds.length := by
        intro n
        induction n with
        | zero => intro lo _ _ d h; cases h
        | succ n ih =>
          intro lo h0 h1 d h
          rcases List.mem_cons.mp h with rfl | h
          · exact ⟨lo, rfl, h0, by omega⟩
          · exact ih (lo + 1) (by omega) (by omega) d h
      exact all _ 0 (by decide) (by omega)
theorem mod_half {a b : Nat} (h : 0 < a % b) : 2 * (b % (a % b)) < b ∨ b = 0 := by
  rcases Nat.eq_zero_or_pos b with z | z
  · exact .inr z
  · left
    have h1 := Nat.mod_lt a z
    have h2 := Nat.mod_lt b h
    have h3 := Nat.div_add_mod b (a % b)
    have h4 : 1 ≤ b / (a % b) := (Nat.le_div_iff_mul_le h).mpr (by omega)
    have h5 : a % b * 1 ≤ a % b * (b / (a % b)) := Nat.mul_le_mul_left _ h4
    omega
def Lap (n a b : Nat) : Prop := (∃ k, 2 * k ≤ n ∧ b < 2 ^ k) ∨ ∃ k, 2 * k + 1 ≤ n ∧ (b = 0 ∨ a % b < 2 ^ k)
theorem lap_next {n a b : Nat} (h : Lap (n + 1) a b) (hb : b ≠ 0) : Lap n b (a % b) := by
  rcases h with ⟨k, h1, h2⟩ | ⟨k, h1, h2⟩
  · cases k with
    | zero => simp at h2; exact absurd h2 hb
    | succ k =>
      refine .inr ⟨k, by omega, ?_⟩
      rcases Nat.eq_zero_or_pos (a % b) with z | z
      · exact .inl z
      · right
        rcases mod_half z with y | y
        · rw [Nat.pow_succ] at h2
          omega
        · exact absurd y hb
  · rcases h2 with z | z
    · exact absurd z hb
    · exact .inl ⟨k, by omega, z⟩
theorem lap_zero {a b : Nat} (h : Lap 0 a b) : b = 0 := by
  rcases h with ⟨k, h1, h2⟩ | ⟨k, h1, _⟩
  · have : k = 0 := by omega
    subst this
    simpa using h2
  · omega
theorem kept_k2 {R : Sl → Prop} {p q g : Int} {x0 x1 x2 x3 x4 x5 x9 x10 : Sl} (hg : 0 < g) (hb : g.natAbs < 2 ^ 401)
    (h : R (.da (prD (if q / g < 0 ∨ (q / g = 0 ∧ p / g < 0) then (0 - p / g, 0 - q / g) else (p / g, q / g))))) : q__law_kept_k2 (Ends0 R) [x0, x1, x2, x3, x4, x5, .da (.int p), .da (.int q), .da (.int g), x9, x10] := by
  have dv : ∀ x, CDivW x g := fun x => wide_div (b := 401) hg hb (by omega) (by omega)
  simp only [q__law_kept_k2_e]
  walk_at "ev"
  refine ⟨dv _, dv _, ?_⟩
  unfold prD at h
  split
  · rename_i z
    rw [if_pos (.inl z)] at h
    simp only [q__law_kept_k1_e]
    walk_at "ev"
    exact h
  · rename_i z
    split
    · rename_i z2
      split
      · rename_i z3
        rw [if_pos (.inr ⟨z2, z3⟩)] at h
        simp only [q__law_kept_k1_e]
        walk_at "ev"
        exact h
      · rename_i z3
        rw [if_neg (by omega)] at h
        simp only [q__law_kept_k1_e]
        walk_at "ev"
        exact h
    · rename_i z2
      rw [if_neg (by omega)] at h
      simp only [q__law_kept_k1_e]
      walk_at "ev"
      exact h
theorem kept_k3 {R : Sl → Prop} {p q : Int} {x0 x1 x2 x3 x4 x5 x8 x9 x10 : Sl} (h0 : p ≠ 0 ∨ q ≠ 0) (hp : p.natAbs < 2 ^ 401) (hq : q.natAbs < 2 ^ 401)
    (h : R (.da (prD (keptP p q)))) : q__law_kept_k3 (Ends0 R) [x0, x1, x2, x3, x4, x5, .da (.int p), .da (.int q), x8, x9, x10] := by
  have g0 : 0 < Int.gcd p q := by
    rcases h0 with z | z
    · exact Int.gcd_pos_of_ne_zero_left _ z
    · exact Int.gcd_pos_of_ne_zero_right _ z
  have gb : Int.gcd p q < 2 ^ 401 := by
    rcases h0 with z | z
    · exact Nat.lt_of_le_of_lt (Nat.le_of_dvd (by omega) (Nat.gcd_dvd_left ..)) hp
    · exact Nat.lt_of_le_of_lt (Nat.le_of_dvd (by omega) (Nat.gcd_dvd_right ..)) hq
  simp only [q__law_kept_k3_e]
  walk_at "ev"
  refine ⟨by decide, by decide, ?_⟩
  have fin : ∀ x10, q__law_kept_k2 (Ends0 R) [x0, x1, x2, x3, x4, x5, .da (.int p), .da (.int q), .da (.int (Int.gcd p q : Nat)), .da (.int 0), x10] := fun x10 =>
    kept_k2 (by omega) (by omega) h
  refine range_of (fun _ n ρ => ∃ (a b : Nat) (x10 : Sl), ρ = [x0, x1, x2, x3, x4, x5, .da (.int p), .da (.int q), .da (.int a), .da (.int b), x10] ∧ Nat.gcd a b = Int.gcd p q ∧ Lap n a b) ?_ ?_ _ _ _ ⟨_, _, _, rfl, rfl, .inl ⟨401, by decide, hq⟩⟩
  · rintro lo ρ ⟨a, b, x10, rfl, hg, hl⟩
    have := lap_zero hl
    subst this
    rw [Nat.gcd_zero_right] at hg
    subst hg
    walk_at "ev"
    exact fin _
  · rintro lo n ρ ⟨a, b, x10, rfl, hg, hl⟩ ih
    simp only [q__law_kept_b1_e]
    walk_at "ev"
    split
    · rename_i z
      have : b = 0 := by omega
      subst this
      rw [Nat.gcd_zero_right] at hg
      subst hg
      exact fin _
    · rename_i z
      refine ⟨by omega, ?_⟩
      rw [← Int.natCast_emod]
      refine ih _ ⟨b, a % b, _, rfl, ?_, lap_next hl (by omega)⟩
      rw [← hg, Nat.gcd_comm b, ← Nat.gcd_rec, Nat.gcd_comm]
theorem spec__law_kept : ∀ gs R, pp__law_kept gs R → q__law_kept (Ends0 R) (startD 11 gs) := by
  rintro gs R ⟨m, rfl, hd, h1, ⟨s1, s2, s3, s4⟩, h⟩
  unfold q__law_kept mtD
  walk_at "ev"
  unfold heldD at h
  split
  · rename_i z
    rw [if_neg (by omega)] at h
    exact h
  · rename_i z
    rw [if_pos (by omega)] at h
    have bd : ∀ (x t : Int), x.natAbs < 2 ^ 400 → (t = 1 ∨ t = -1) → (t - x).natAbs < 2 ^ 401 := fun x t hx ht => by
      have : (2 : Nat) ^ 401 = 2 ^ 400 + 2 ^ 400 := by decide
      omega
    have lt : ∀ x : Int, x.natAbs < 2 ^ 400 → x.natAbs < 2 ^ 401 := fun x hx => Nat.lt_of_lt_of_le hx (by decide)
    have main : ∀ (t : Int) (x5 x8 x9 x10 : Sl), (t = 1 ∨ t = -1) → m.a + m.d = 2 * t → (if m.b = 0 then
        (if t - m.a = 0 then q__law_kept_k3 (Ends0 R) [.da (.tuple [.int m.a, .int m.b, .int m.c, .int m.d]), .da (.int m.a), .da (.int m.b), .da (.int m.c), .da (.int m.d), x5, .da (.int (t - m.d)), .da (.int m.c), x8, x9, x10]
         else q__law_kept_k3 (Ends0 R) [.da (.tuple [.int m.a, .int m.b, .int m.c, .int m.d]), .da (.int m.a), .da (.int m.b), .da (.int m.c), .da (.int m.d), x5, .da (.int m.b), .da (.int (t - m.a)), x8, x9, x10])
        else q__law_kept_k3 (Ends0 R) [.da (.tuple [.int m.a, .int m.b, .int m.c, .int m.d]), .da (.int m.a), .da (.int m.b), .da (.int m.c), .da (.int m.d), x5, .da (.int m.b), .da (.int (t - m.a)), x8, x9, x10]) := by
      intro t x5 x8 x9 x10 ht e
      rw [held_eq hd h1 ht e] at h
      by_cases b0 : m.b = 0
      · rw [if_pos b0]
        by_cases a0 : t - m.a = 0
        · rw [if_pos a0]
          rw [if_pos ⟨b0, a0⟩] at h
          refine kept_k3 (.inr fun c0 => h1 ((one_iff hd).mpr ⟨b0, c0⟩)) (bd _ _ s4 ht) (lt _ s3) h
        · rw [if_neg a0]
          rw [if_neg (fun z => a0 z.2)] at h
          exact kept_k3 (.inr a0) (lt _ s2) (bd _ _ s1 ht) h
      · rw [if_neg b0]
        rw [if_neg (fun z => b0 z.1)] at h
        exact kept_k3 (.inl b0) (lt _ s2) (bd _ _ s1 ht) h
    split
    · exact main 1 _ _ _ _ (.inl rfl) (by omega)
    · exact main (-1) _ _ _ _ (.inr rfl) (by omega)
local macro_rules | `(tactic| walk_at "dr") => `(tactic| (refine ⟨_, _, rfl, by omega, by omega, by omega, by omega, ?_⟩; intro r r0 r1; walk_at "ev"))
theorem tx_take (u : List Lt) (at_ : Int) (h0 : 0 ≤ at_) (h1 : at_ ≤ u.length) : cutS (tx u) none (some at_) = tx (u.take at_.toNat) := by
  unfold cutS
  have e : ((at_.toNat : Nat) : Int) = at_ := by omega
  generalize at_.toNat = k at *
  subst e
  rw [tx_len, HT.sIx_nat, HT.sIx_none, List.drop_zero, Nat.sub_zero, Nat.min_eq_left (by omega)]
  unfold tx
  rw [List.toList_toArray, List.map_take]
theorem tx_drop (u : List Lt) (at_ : Int) (h0 : 0 ≤ at_) (h1 : at_ ≤ u.length) : cutS (tx u) (some at_) none = tx (u.drop at_.toNat) := by
  unfold cutS
  have e : ((at_.toNat : Nat) : Int) = at_ := by omega
  generalize at_.toNat = k at *
  subst e
  rw [tx_len, HT.sIx_nat, HT.sIx_none, Nat.min_eq_left (by omega), List.take_of_length_le (by rw [List.length_drop, Array.length_toList]; show (tx u).length - _ ≤ _; rw [tx_len]; omega)]
  unfold tx
  rw [List.toList_toArray, List.map_drop]
theorem tx_cat (u v : List Lt) : tx u ++ tx v = tx (u ++ v) := by
  show (⟨(u.map Lt.code).toArray ++ (v.map Lt.code).toArray⟩ : Str) = ⟨((u ++ v).map Lt.code).toArray⟩
  congr 1
  apply Array.ext'
  simp
theorem atI_tx {u : List Lt} {at_ : Int} (h0 : 0 ≤ at_) (h1 : at_ < u.length) : ∃ l : Lt, atI (tx u).cps.toList at_ = some l.code := by
  unfold atI ixN tx
  rw [List.toList_toArray, List.length_map, if_pos h0, if_pos h1]
  have : at_.toNat < u.length := by omega
  exact ⟨u[at_.toNat], by show (u.map Lt.code)[at_.toNat]? = _; rw [List.getElem?_map, List.getElem?_eq_getElem this]; rfl⟩
theorem szT {u : List Lt} {n : Nat} (h : u.length ≤ n) (hn : n ≤ 100000) : (tx u).length ≤ sizeLine := by
  rw [tx_len]
  exact Nat.le_trans (Nat.le_trans h hn) (by decide)
theorem more_at {r : Int} (h0 : 0 ≤ r) (h1 : r < 5) : ∃ m : List Lt, atI [PyData.str "ss", .str "vw", .str "wv", .str "www", .str "vvv"] r = some (.str (tx m)) ∧ m.length ≤ 3 := by
  have : r = 0 ∨ r = 1 ∨ r = 2 ∨ r = 3 ∨ r = 4 := by omega
  rcases this with rfl | rfl | rfl | rfl | rfl
  · exact ⟨[.s, .s], by rfl, by decide⟩
  · exact ⟨[.v, .w], by rfl, by decide⟩
  · exact ⟨[.w, .v], by rfl, by decide⟩
  · exact ⟨[.w, .w, .w], by rfl, by decide⟩
  · exact ⟨[.v, .v, .v], by rfl, by decide⟩
theorem spec__law_puffed : ∀ gs R, pp__law_puffed gs R → q__law_puffed (Ends0 R) (startD 5 gs) := by
  rintro gs R ⟨u, rfl, hu, h⟩
  unfold q__law_puffed
  walk_at "ev"
  walk_at "dr"
  refine ⟨by omega, by omega, ?_⟩
  refine loop_of (fun _ ρ => ∃ (u : List Lt) (x2 x3 x4 : Sl), ρ = [.ja, .da (.str (tx u)), x2, x3, x4] ∧ u.length ≤ 200) ?_ ?_ _ _ ⟨u, _, _, _, rfl, hu⟩
  · rintro ρ ⟨u, x2, x3, x4, rfl, hu⟩
    simp only [thn_nx, q__law_puffed_k1_e]
    walk_at "ev"
    exact h u hu
  · rintro d ds ρ ⟨u, x2, x3, x4, rfl, hu⟩ ih
    have go : ∀ (v : List Lt) (x2 x3 x4 : Sl), v.length ≤ 200 → loopD (qgName 2) q__law_puffed_b1 _ ds [.ja, .da (.str (tx v)), x2, x3, x4] := fun v x2 x3 x4 hv => ih _ ⟨v, _, _, _, rfl, hv⟩
    have lu := szT hu (by decide)
    have el := tx_len u
    simp only [q__law_puffed_b1_e]
    walk_at "ev"
    refine ⟨lu, ?_⟩
    rw [el]
    refine ⟨_, _, rfl, by omega, by omega, by omega, by omega, ?_⟩
    intro at_ a0 a1
    walk_at "ev"
    walk_at "dr"
    rename_i r r0 r1
    obtain ⟨m, hm, m3⟩ := more_at r0 r1
    refine ⟨_, hm, ?_⟩
    walk_at "dr"
    have sz : ∀ {v : List Lt}, v.length ≤ 1000 → (tx v).length ≤ sizeLine := fun h => szT h (by decide)
    have dl : (u.drop at_.toNat).length + at_.toNat = u.length := by rw [List.length_drop]; omega
    have tl : (u.take at_.toNat).length = at_.toNat := by rw [List.length_take]; omega
    have st : u.length ≤ sizeLine ∧ (tx m).length ≤ sizeLine ∧ (if (u.length : Int) + (tx m).length ≤ 200 then
        u.length ≤ sizeLine ∧ (cutS (tx u) none (some at_)).length + (tx m).length ≤ sizeLine ∧ u.length ≤ sizeLine ∧ (cutS (tx u) none (some at_) ++ tx m).length + (cutS (tx u) (some at_) none).length ≤ sizeLine ∧
          loopD (qgName 2) q__law_puffed_b1 ((Ends0 R).thn (q__law_puffed_k1 (Ends0 R))) ds [.ja, .da (.str (cutS (tx u) none (some at_) ++ tx m ++ cutS (tx u) (some at_) none)), .da d, .da (.int at_), .da (.str (tx m))]
        else loopD (qgName 2) q__law_puffed_b1 ((Ends0 R).thn (q__law_puffed_k1 (Ends0 R))) ds [.ja, .da (.str (tx u)), .da d, .da (.int at_), .da (.str (tx m))]) := by
      rw [el] at lu
      refine ⟨lu, sz (by omega), ?_⟩
      rw [tx_len]
      split
      · rw [tx_take u at_ a0 (by omega), tx_drop u at_ a0 (by omega), tx_cat, tx_cat, tx_len, tx_len, tx_len]
        have : 1000 ≤ sizeLine := by decide
        refine ⟨by omega, by omega, by omega, by rw [List.length_append]; omega, go _ _ _ _ ?_⟩
        rw [List.length_append, List.length_append]
        omega
      · exact go _ _ _ _ hu
    split
    · refine ⟨lu, ?_⟩
      rw [el]
      split
      · obtain ⟨l, hl⟩ := atI_tx (u := u) a0 (by assumption)
        refine ⟨by rw [← el]; rw [tx_len]; omega, _, hl, ?_⟩
        split
        · refine ⟨by rw [← el]; rw [tx_len]; omega, _, hl, ?_⟩
          have fin : ∀ m2 : List Lt, m2.length = 2 → u.length ≤ sizeLine ∧ (if (u.length : Int) < 200 then u.length ≤ sizeLine ∧ (cutS (tx u) none (some at_)).length + (tx m2).length ≤ sizeLine ∧ u.length ≤ sizeLine ∧ (cutS (tx u) none (some at_) ++ tx m2).length + (cutS (tx u) (some (at_ + 1)) none).length ≤ sizeLine ∧
              loopD (qgName 2) q__law_puffed_b1 ((Ends0 R).thn (q__law_puffed_k1 (Ends0 R))) ds [.ja, .da (.str (cutS (tx u) none (some at_) ++ tx m2 ++ cutS (tx u) (some (at_ + 1)) none)), .da d, .da (.int at_), .da (.str (tx m2))]
              else loopD (qgName 2) q__law_puffed_b1 ((Ends0 R).thn (q__law_puffed_k1 (Ends0 R))) ds [.ja, .da (.str (tx u)), .da d, .da (.int at_), .da (.str (tx m2))]) := by
            intro m2 l2
            rw [el] at lu
            refine ⟨lu, ?_⟩
            split
            · have : 1000 ≤ sizeLine := by decide
              rw [tx_take u at_ a0 (by omega), tx_drop u (at_ + 1) (by omega) (by omega), tx_cat, tx_cat, tx_len, tx_len, tx_len]
              have dl' : (u.drop (at_ + 1).toNat).length + (at_.toNat + 1) = u.length := by rw [List.length_drop]; omega
              refine ⟨lu, by omega, lu, by rw [List.length_append, tx_len]; omega, go _ _ _ _ ?_⟩
              rw [List.length_append, List.length_append]
              omega
            · exact go _ _ _ _ hu
          split
          · exact fin [.v, .v] rfl
          · exact fin [.w, .w] rfl
        · rw [← el] at st
          rw [← el]
          exact st
      · exact st
    · rw [← el] at st
      exact st
theorem ord_kind (m : Mt) : ordM m = .none ∨ ∃ i, ordM m = .int i := by
  unfold ordM
  split
  · exact .inr ⟨_, rfl⟩
  · split
    · exact .inr ⟨_, rfl⟩
    · split
      · exact .inr ⟨_, rfl⟩
      · exact .inl rfl
theorem ord_one {m : Mt} (h : m.b = 0 ∧ m.c = 0) : ordM m = .int 1 := by
  unfold ordM
  rw [if_pos h]
theorem held_kind (m : Mt) : heldD m = .none ∨ ∃ i j, heldD m = .tuple [.int i, .int j] := by
  unfold heldD
  split
  · exact .inr ⟨_, _, rfl⟩
  · exact .inl rfl
theorem bd_fold : ∀ (u : List Lt) {k : Nat} {m : Mt}, Bd k m → Bd (k + u.length) (u.foldl ap m)
  | [], _, _, h => h
  | l :: u, k, m, h => by
    have := bd_fold u (bd_ap h l)
    rw [List.length_cons, show k + (u.length + 1) = k + 1 + u.length by omega]
    exact this
theorem sm_mat {u : List Lt} (hu : u.length ≤ 200) : Sm (mat u) := by
  have h : Bd (0 + u.length) (mat u) := bd_fold u (m := one) ⟨by decide, by decide, by decide, by decide⟩
  rw [Nat.zero_add] at h
  have e : 2 ^ u.length ≤ 2 ^ 200 := Nat.pow_le_pow_right (by decide) hu
  have e2 : (2 : Nat) ^ 200 < 2 ^ 400 := by decide
  unfold Bd at h
  unfold Sm
  omega
theorem spec__law_asked : ∀ gs R, pp__law_asked gs R → q__law_asked (Ends0 R) (startD 4 gs) := by
  rintro gs R ⟨u, b, rfl, hu, h⟩
  have turn : ∀ R, R (Sl.da (ordM (mat u))) → pp_turn_order [.d (.str (tx u))] R := fun R hR => ⟨u, rfl, hu, by rw [ord_eq]; exact hR⟩
  have held : ∀ R, R (Sl.da (heldD (mat u))) → pp_held_tangle [.d (.str (tx u))] R := fun R hR => ⟨u, rfl, hu, hR⟩
  have kept : ¬ ((mat u).b = 0 ∧ (mat u).c = 0) → ∀ R, R (Sl.da (heldD (mat u))) → pp__law_kept [.d (mtD (mat u))] R := fun hn R hR => ⟨mat u, rfl, mat_det u, fun e => hn ((one_iff (mat_det u)).mp e), sm_mat hu, hR⟩
  have same : ∀ d R, Cmp 2 d → R (Sl.da (.bool true)) → pp__law_same [.d d, .d d] R := fun d R hd hR => ⟨d, rfl, hd, hR⟩
  unfold q__law_asked
  walk_at "ev"
  refine ⟨u, rfl, hu, ?_⟩
  unfold mtD at *
  walk_at "ev"
  refine ⟨mat u, rfl, ?_⟩
  have hk := held_kind (mat u)
  generalize heldD (mat u) = hd at *
  have sheld : Cmp 2 hd := by
    rcases hk with rfl | ⟨i, j, rfl⟩
    · exact .inl (.inl (.inl rfl))
    · exact .inr ⟨_, rfl, show 2 ≤ 10 by decide, fun x hx => by
        rcases List.mem_cons.mp hx with rfl | hx
        · exact .inl (.inr ⟨_, rfl⟩)
        · rcases List.mem_cons.mp hx with rfl | hx
          · exact .inl (.inr ⟨_, rfl⟩)
          · cases hx⟩
  have fin : ¬ ((mat u).b = 0 ∧ (mat u).c = 0) → ∀ (x3 : Sl) (b : Bool), (if b = true then
      pp_held_tangle [.d (.str (tx u))] (hold (fun r ρ' => asD r fun d => qaD (qDR (qCall pp__law_kept (qaN 2 qaNil))) qaNil ρ' fun as ρ2 => ∃ gs, resv ρ2 (A.d d :: as) = some gs ∧ pp__law_same gs
        (hold (fun r ρ' => asD r fun d => ((Ends0 R).thn (qNext (Ends0 R))).rt (Sl.da d) ρ') Seal.mk ρ2 (A.d d :: as))) Seal.mk [.da (.str (tx u)), .da (.bool b), .da (.tuple [.int (mat u).a, .int (mat u).b, .int (mat u).c, .int (mat u).d]), x3] [A.n 0])
      else pp_held_tangle [.d (.str (tx u))] (hold (fun r ρ' => asD r fun d => qaD (qDR (qCall pp__law_kept (qaN 2 qaNil))) qaNil ρ' fun as ρ2 => ∃ gs, resv ρ2 (A.d d :: as) = some gs ∧ pp__law_same gs
        (hold (fun r ρ' => asD r fun d => ((Ends0 R).thn (qNext (Ends0 R))).rt (Sl.da d) ρ') Seal.mk ρ2 (A.d d :: as))) Seal.mk [.da (.str (tx u)), .da (.bool b), .da (.tuple [.int (mat u).a, .int (mat u).b, .int (mat u).c, .int (mat u).d]), x3] [A.n 0])) := by
    intro hn x3 b
    have one : pp_held_tangle [.d (.str (tx u))] (hold (fun r ρ' => asD r fun d => qaD (qDR (qCall pp__law_kept (qaN 2 qaNil))) qaNil ρ' fun as ρ2 => ∃ gs, resv ρ2 (A.d d :: as) = some gs ∧ pp__law_same gs
        (hold (fun r ρ' => asD r fun d => ((Ends0 R).thn (qNext (Ends0 R))).rt (Sl.da d) ρ') Seal.mk ρ2 (A.d d :: as))) Seal.mk [.da (.str (tx u)), .da (.bool b), .da (.tuple [.int (mat u).a, .int (mat u).b, .int (mat u).c, .int (mat u).d]), x3] [A.n 0]) := by
      refine held _ ?_
      rcases hk with rfl | ⟨i, j, rfl⟩
      all_goals
        walk_at "ev"
        refine kept hn _ ?_
        walk_at "ev"
        refine same _ _ sheld ?_
        walk_at "ev"
        exact h
    split
    all_goals exact one
  rcases ord_kind (mat u) with e | ⟨i, e⟩
  · have hn : ¬ ((mat u).b = 0 ∧ (mat u).c = 0) := fun z => by
      rw [ord_one z] at e
      cases e
    rw [e] at turn ⊢
    cases b
    all_goals
      walk_at "ev"
      refine turn _ ?_
      walk_at "ev"
      refine same _ _ (.inl (.inl (.inl rfl))) ?_
      walk_at "ev"
      refine ⟨rfl, rfl, ?_⟩
      rw [show PyData.eqv .none (.int 1) = false from rfl]
      walk_at "ev"
    · exact fin hn _ false
    · exact fin hn _ true
  · rw [e] at turn ⊢
    cases b
    all_goals
      walk_at "ev"
      refine turn _ ?_
      walk_at "ev"
      refine same _ _ (.inl (.inl (.inr ⟨_, rfl⟩))) ?_
      walk_at "ev"
      split
      · exact h
    all_goals
      rename_i z
      have hn : ¬ ((mat u).b = 0 ∧ (mat u).c = 0) := fun z2 => by
        rw [ord_one z2] at e
        cases e
        exact z rfl
    · exact fin hn _ false
    · exact fin hn _ true
theorem words_b1 {R : Sl → Prop} (h : ∀ (ds : List D), (∀ (d : D), d ∈ ds → Wd d) → ds.length = 6 → R (Sl.ow ds)) {ks : List D} {x2 x4 x5 : Sl} (hk : ∀ d ∈ ks, ∃ u : List Lt, d = .str (tx u) ∧ u.length ≤ 24) (hl : ks.length = 5) (b : Bool) :
    loopD (qgName 4) q__law_words_b1 ((Ends0 R).thn (q__law_words_k1 (Ends0 R))) ks [.ja, .da (.bool b), x2, .ow [], x4, x5] := by
  refine loop_of (fun ks ρ => ∃ (ds : List D) (x2 x4 x5 : Sl), ρ = [.ja, .da (.bool b), x2, .ow ds, x4, x5] ∧ (∀ d ∈ ds, Wd d) ∧ ds.length + ks.length = 5 ∧ ∀ d ∈ ks, ∃ u : List Lt, d = .str (tx u) ∧ u.length ≤ 24) ?_ ?_ _ _ ⟨[], _, _, _, rfl, by simp, by simpa using hl, hk⟩
  · rintro ρ ⟨ds, x2, x4, x5, rfl, hw, hl, _⟩
    simp only [thn_nx, q__law_words_k1_e]
    walk_at "ev"
    walk_at "dr"
    refine ⟨_, _, rfl, by omega, by omega, by decide, by decide, fun v hv => ?_⟩
    walk_at "ev"
    have hl' : ds.length = 5 := by simpa using hl
    refine ⟨by rw [hl']; decide, h _ (fun d hd => ?_) (by rw [List.length_append, hl', List.length_singleton])⟩
    rcases List.mem_append.mp hd with hd | hd
    · exact hw d hd
    · rw [List.mem_singleton.mp hd]
      exact ⟨v, rfl, by omega⟩
  · rintro d ks ρ ⟨ds, x2, x4, x5, rfl, hw, hl, hk⟩ ih
    obtain ⟨u, rfl, hu⟩ := hk d (List.mem_cons_self ..)
    have hk' : ∀ d ∈ ks, ∃ u : List Lt, d = .str (tx u) ∧ u.length ≤ 24 := fun d hd => hk d (List.mem_cons_of_mem _ hd)
    rw [List.length_cons] at hl
    have fin : ∀ (n : Int) (x2 _x4 x5 : Sl), 0 ≤ n → n ≤ 88 → pp__law_plain [Ag.j, Ag.d (.int n)] (hold (fun r ρ' => q__law_words_s2 { nx := loopD (qgName 4) q__law_words_b1 ((Ends0 R).thn (q__law_words_k1 (Ends0 R))) ks, rt := (Ends0 R).rt, bk := q__law_words_k1 (Ends0 R), ct := loopD (qgName 4) q__law_words_b1 ((Ends0 R).thn (q__law_words_k1 (Ends0 R))) ks } (ρ'.set 5 r)) Seal.mk [.ja, .da (.bool b), x2, .ow ds, .da (.str (tx u)), x5] [A.n 0, A.d (.int n)]) := by
      intro n x2 _ x5 n0 n1
      refine ⟨_, rfl, n0, by omega, fun a ha => ?_⟩
      walk_at "ev"
      have big : 1000 ≤ sizeLine := by decide
      refine ⟨by rw [tx_len, tx_len]; omega, a, rfl, by omega, ?_⟩
      walk_at "ev"
      rw [tx_cat, tx_cat]
      have l1 : (a ++ u ++ a.reverse.map inv).length ≤ 200 := by
        simp only [List.length_append, List.length_map, List.length_reverse]
        omega
      refine ⟨by rw [tx_len, tx_len]; simp only [List.length_append, List.length_map, List.length_reverse]; omega, _, rfl, l1, fun v hv => ?_⟩
      walk_at "ev"
      refine ⟨by omega, ih _ ⟨_, _, _, _, rfl, fun d hd => ?_, by rw [List.length_append, List.length_singleton]; omega, hk'⟩⟩
      rcases List.mem_append.mp hd with hd | hd
      · exact hw d hd
      · rw [List.mem_singleton.mp hd]
        exact ⟨v, rfl, hv⟩
    simp only [q__law_words_b1_e]
    cases b
    all_goals
      walk_at "ev"
      walk_at "dr"
    · exact fin _ _ .un _ (by omega) (by omega)
    · exact fin _ _ .un _ (by omega) (by omega)
theorem one_at {r : Int} (h0 : 0 ≤ r) (h1 : r < 2) : ∃ m : List Lt, atI [PyData.str "w", .str "v"] r = some (.str (tx m)) ∧ m.length = 1 := by
  have : r = 0 ∨ r = 1 := by omega
  rcases this with rfl | rfl
  · exact ⟨[.w], by rfl, rfl⟩
  · exact ⟨[.v], by rfl, rfl⟩
theorem two_at {r : Int} (h0 : 0 ≤ r) (h1 : r < 4) : ∃ m : List Lt, atI [PyData.str "sw", .str "ws", .str "sv", .str "vs"] r = some (.str (tx m)) ∧ m.length = 2 := by
  have : r = 0 ∨ r = 1 ∨ r = 2 ∨ r = 3 := by omega
  rcases this with rfl | rfl | rfl | rfl
  · exact ⟨[.s, .w], by rfl, rfl⟩
  · exact ⟨[.w, .s], by rfl, rfl⟩
  · exact ⟨[.s, .v], by rfl, rfl⟩
  · exact ⟨[.v, .s], by rfl, rfl⟩
theorem rep_len (m : List Lt) (k : Nat) : ((List.replicate k m).flatten).length = k * m.length := by
  rw [List.length_flatten, List.map_replicate, List.sum_replicate_nat]
theorem spec__law_words : ∀ gs R, pp__law_words gs R → q__law_words (Ends0 R) (startD 6 gs) := by
  rintro gs R ⟨rfl, h⟩
  unfold q__law_words
  walk_at "ev"
  walk_at "dr"
  walk_at "dr"
  rename_i r0 r1
  obtain ⟨m1, e1, l1⟩ := one_at r0 r1
  refine ⟨_, e1, ?_⟩
  walk_at "dr"
  rename_i r0 r1
  obtain ⟨m2, e2, l2⟩ := two_at r0 r1
  refine ⟨_, e2, ?_⟩
  walk_at "dr"
  rename_i k k0 k1
  have lm : ∀ m : List Lt, (tx m).length = m.length := tx_len
  refine ⟨by omega, by omega, by rw [lm, l2]; omega, by decide, ?_⟩
  walk_at "dr"
  rename_i n n0 n1
  refine ⟨by omega, by omega, ?_, ?_⟩
  · rw [show (Str.ofString "ws").length = 2 by decide]
    omega
  walk_at "dr"
  rename_i j j0 j1
  have ews : repS (Str.ofString "ws") (1 + n).toNat = tx (List.replicate (1 + n).toNat [.w, .s]).flatten := tx_rep [.w, .s] _
  have evs : repS (Str.ofString "vs") (1 + j).toNat = tx (List.replicate (1 + j).toNat [.v, .s]).flatten := tx_rep [.v, .s] _
  rw [tx_rep, ews, evs, tx_cat]
  have lw := rep_len [.w, .s] (1 + n).toNat
  have lv := rep_len [.v, .s] (1 + j).toNat
  have l3 := rep_len m2 (1 + k).toNat
  rw [show [Lt.w, .s].length = 2 from rfl] at lw
  rw [show [Lt.v, .s].length = 2 from rfl] at lv
  rw [l2] at l3
  have big : 1000 ≤ sizeLine := by decide
  refine ⟨by omega, by omega, by rw [show (Str.ofString "vs").length = 2 by decide]; omega, by rw [lm, lm]; omega, by decide, ?_⟩
  refine words_b1 h (fun d hd => ?_) rfl _
  simp only [List.mem_cons, List.not_mem_nil, or_false] at hd
  rcases hd with rfl | rfl | rfl | rfl | rfl
  · exact ⟨[], rfl, by decide⟩
  · exact ⟨[.s], rfl, by decide⟩
  · exact ⟨m1, rfl, by omega⟩
  · exact ⟨_, rfl, by omega⟩
  · exact ⟨_, rfl, by rw [List.length_append]; omega⟩
theorem spec_law : ∀ ns : List Int, ns.length ≤ 63 → q_law EndL (startD 7 [.d (.list (ns.map .int))]) := by
  intro ns hl
  unfold q_law
  walk_at "ev"
  refine ⟨ns, rfl, hl, fun c hc => ⟨hc, rfl, fun ds hw hl => ?_⟩⟩
  have asked : ∀ (u : List Lt) (b : Bool) R, u.length ≤ 200 → R (Sl.da (.bool true)) → pp__law_asked [.d (.str (tx u)), .d (.bool b)] R := fun u b R hu h => ⟨u, b, rfl, hu, h⟩
  have wd : ∀ i : Int, 0 ≤ i → i < 6 → ∃ u : List Lt, atI ds i = some (.str (tx u)) ∧ u.length ≤ 200 := fun i h0 h1 => by
    obtain ⟨x, e, m, _⟩ := atI_of (xs := ds) h0 (by omega)
    obtain ⟨u, rfl, hu⟩ := hw x m
    exact ⟨u, e, hu⟩
  walk_at "ev"
  rw [hl]
  walk_at "dr"
  rename_i beg b0 b1
  rw [hl]
  refine ⟨by decide, by decide, ?_⟩
  have tail : ∀ x0 x4 x5 x6, q_law_k2 EndL [x0, .ja, .ow ds, .da (.int beg), x4, x5, x6] := by
    intro x0 x4 x5 x6
    simp only [q_law_k2_e]
    walk_at "ev"
    refine loop_of (fun ws ρ => ∃ x0 x4 x5 x6, ρ = [x0, .ja, .ow ds, .da (.int beg), x4, x5, x6] ∧ ∀ d ∈ ws, Wd d) ?_ ?_ _ _ ⟨_, _, _, _, rfl, fun d hd => ?_⟩
    · rintro ρ ⟨x0, x4, x5, x6, rfl, _⟩
      have t1 : ordW [.s, .w] = .none := by rfl
      have t2 : ordW [.v, .s, .w] = .int 2 := by rfl
      have t3 : heldD (mat [.s, .w]) = .tuple [.int 0, .int 1] := by rfl
      have t4 : heldD (mat [.w, .s, .w, .s]) = .tuple [.int 1, .int 0] := by rfl
      have t5 : heldD (mat [.w, .s, .v, .s]) = .none := by rfl
      have t6 : heldD (mat [.s]) = .none := by rfl
      simp only [thn_nx, q_law_k1_e]
      walk_at "ev"
      refine ⟨[.s, .w], rfl, by decide, ?_⟩
      rw [t1]
      walk_at "ev"
      refine ⟨[.v, .s, .w], rfl, by decide, ?_⟩
      rw [t2]
      walk_at "ev"
      refine ⟨[.s, .w], rfl, by decide, ?_⟩
      rw [t3]
      walk_at "ev"
      refine ⟨[.w, .s, .w, .s], rfl, by decide, ?_⟩
      rw [t4]
      walk_at "ev"
      refine ⟨[.w, .s, .v, .s], rfl, by decide, ?_⟩
      rw [t5]
      walk_at "ev"
      refine ⟨[.s], rfl, by decide, ?_⟩
      rw [t6]
      walk_at "ev"
      have two : ∀ i j : Int, Cmp 1 (.tuple [.int i, .int j]) := fun i j => .inr ⟨_, rfl, show 2 ≤ 10 by decide, fun x hx => by
        simp only [List.mem_cons, List.not_mem_nil, or_false] at hx
        rcases hx with rfl | rfl
        · exact .inr ⟨_, rfl⟩
        · exact .inr ⟨_, rfl⟩⟩
      refine ⟨_, rfl, .inr ⟨_, rfl, show 6 ≤ 10 by decide, fun x hx => ?_⟩, ?_⟩
      · simp only [List.mem_cons, List.not_mem_nil, or_false] at hx
        rcases hx with rfl | rfl | rfl | rfl | rfl | rfl
        · exact .inl (.inl rfl)
        · exact .inl (.inr ⟨_, rfl⟩)
        · exact two _ _
        · exact two _ _
        · exact .inl (.inl rfl)
        · exact .inl (.inl rfl)
      walk_at "ev"
      obtain ⟨u, hu, ul⟩ := wd beg b0 b1
      refine ⟨_, hu, asked u _ _ ul ?_⟩
      walk_at "ev"
    · rintro d ws ρ ⟨x0, x4, x5, x6, rfl, hws⟩ ih
      obtain ⟨u, rfl, hu⟩ := hws d (List.mem_cons_self ..)
      simp only [q_law_b1_e]
      walk_at "ev"
      refine asked u _ _ hu ?_
      walk_at "ev"
      exact ih _ ⟨_, _, _, _, rfl, fun d hd => hws d (List.mem_cons_of_mem _ hd)⟩
    · simp only [List.mem_cons, List.not_mem_nil, or_false] at hd
      rcases hd with rfl | rfl | rfl | rfl | rfl | rfl | rfl | rfl | rfl | rfl | rfl | rfl | rfl | rfl
      · exact ⟨[], rfl, by decide⟩
      · exact ⟨[.s], rfl, by decide⟩
      · exact ⟨[.v], rfl, by decide⟩
      · exact ⟨[.w], rfl, by decide⟩
      · exact ⟨[.s, .s], rfl, by decide⟩
      · exact ⟨[.w, .w, .w], rfl, by decide⟩
      · exact ⟨[.w, .s], rfl, by decide⟩
      · exact ⟨[.s, .v], rfl, by decide⟩
      · exact ⟨[.s, .w], rfl, by decide⟩
      · exact ⟨[.v, .s], rfl, by decide⟩
      · exact ⟨[.w, .s, .w, .s], rfl, by decide⟩
      · exact ⟨[.s, .w, .s, .v], rfl, by decide⟩
      · exact ⟨[.v, .s, .w], rfl, by decide⟩
      · exact ⟨[.w, .s, .v, .s], rfl, by decide⟩
  refine loop_of (fun is ρ => ∃ x0 x4 x5 x6, ρ = [x0, .ja, .ow ds, .da (.int beg), x4, x5, x6] ∧ ∀ d ∈ is, ∃ i, d = PyData.int i) ?_ ?_ _ _ ⟨_, _, _, _, rfl, rangeD_int _ _⟩
  · rintro ρ ⟨x0, x4, x5, x6, rfl, _⟩
    walk_at "ev"
    exact tail _ _ _ _
  · rintro d is ρ ⟨x0, x4, x5, x6, rfl, his⟩ ih
    obtain ⟨i, rfl⟩ := his d (List.mem_cons_self ..)
    have go : ∀ x0 x4 x5 x6, loopD (qgName 4) q_law_b2 _ is [x0, .ja, .ow ds, .da (.int beg), x4, x5, x6] := fun x0 x4 x5 x6 => ih _ ⟨_, _, _, _, rfl, fun d hd => his d (List.mem_cons_of_mem _ hd)⟩
    simp only [q_law_b2_e]
    walk_at "ev"
    rw [hl]
    obtain ⟨u, hu, ul⟩ := wd ((beg + i) % (6 : Nat)) (Int.emod_nonneg _ (by decide)) (Int.emod_lt_of_pos _ (by decide))
    refine ⟨by decide, _, hu, ?_⟩
    have el := tx_len u
    have big : 1000 ≤ sizeLine := by decide
    refine asked u _ _ ul ?_
    walk_at "ev"
    refine ⟨u, rfl, ul, ?_⟩
    walk_at "ev"
    refine asked _ _ _ (by rw [List.length_map, List.length_reverse]; exact ul) ?_
    walk_at "ev"
    refine ⟨by omega, ?_⟩
    split
    · rename_i z
      rw [el] at z
      refine ⟨by omega, ?_⟩
      rw [tx_cat]
      refine asked _ _ _ (by rw [List.length_append]; omega) ?_
      walk_at "ev"
      exact go _ _ _ _
    · exact go _ _ _ _
end K03

set_option Elab.async false
set_option linter.all false
set_option maxRecDepth 100000
set_option maxHeartbeats 4000000
namespace K03
open PySem PySem.Spec PyProof.Rows L2 Zd
def topS (i : Nat) : Stmt := PySem.Challenge.pw_calledloose_k03_turns.main.body.getD i (.Pass ⟨0, 0, 0, 0⟩)
structure Tx (K : PySem.W.Frag) (w : World) (mg : Str → Option Value) : Prop where
  m_abs : mg "abs" = none
  m_bool : mg "bool" = none
  m_int : mg "int" = none
  m_isinstance : mg "isinstance" = none
  m_len : mg "len" = none
  m_range : mg "range" = none
  m_tuple : mg "tuple" = none
  d_PRODUCTS : TabOk K w mg "PRODUCTS" tb_PRODUCTS
  d_ROWS : TabOk K w mg "ROWS" tb_ROWS
  f_gcd : mg "gcd" = some (.builtin "math.gcd")
abbrev s__law_jar : Stmt := topS 11
abbrev s__law_draw : Stmt := topS 12
abbrev s__law_plain : Stmt := topS 15
abbrev s__law_letters : Stmt := topS 14
abbrev s__law_puffed : Stmt := topS 16
abbrev s__law_back : Stmt := topS 13
abbrev s__law_words : Stmt := topS 22
abbrev s_reduced : Stmt := topS 3
abbrev s_turn_order : Stmt := topS 6
abbrev s_behind : Stmt := topS 7
abbrev s_lowest : Stmt := topS 8
abbrev s_held_tangle : Stmt := topS 9
abbrev s__law_same : Stmt := topS 20
abbrev s__law_matrix : Stmt := topS 17
abbrev s__law_order : Stmt := topS 18
abbrev s__law_kept : Stmt := topS 19
abbrev s__law_asked : Stmt := topS 21
abbrev s_law : Stmt := topS 23
theorem kw_held_tangle_word {K : PySem.W.Frag} {f : Addr} {fd : FuncData} (F : FnP K "held_tangle" s_held_tangle f fd) : KwOk K fd ["word"] ["word"] [0] :=
  kw_of F fun _ _ _ _ _ _ us hl => match us, hl with | [_], _ => rfl
theorem kw_turn_order_word {K : PySem.W.Frag} {f : Addr} {fd : FuncData} (F : FnP K "turn_order" s_turn_order f fd) : KwOk K fd ["word"] ["word"] [0] :=
  kw_of F fun _ _ _ _ _ _ us hl => match us, hl with | [_], _ => rfl
section
variable {P : Program} {w : World} {K : PySem.W.Frag} {mg : Str → Option Value} {base : Heap} {J : Jr}
abbrev N__law_jar : List Str := ["script", "jar", "cell", "size"]
theorem sc__law_jar : FnScope N__law_jar ["script"] (defScope s__law_jar) := ⟨rfl, rfl, rfl, by decide +kernel, rfl, by decide +kernel, by decide +kernel⟩
theorem body__law_jar {f : Addr} (T : Tx K w mg)  (cdv : Value) (A : Around) (outer : List Env) (s : Shared) (H : Hp) (E : XK) (hr : Room 0 (A.deeper (envOfC "_law_jar" (defScope s__law_jar) s.heap.objs.size f cdv))) :
    PSs (cxOf CX0 P w K mg base N__law_jar "_law_jar" (defScope s__law_jar) f cdv A outer s H E).nox (defBody s__law_jar) (tM K J q__law_jar) :=
  (mk_disp (i := 1) sc__law_jar.nd rfl (.inl rfl) (pn_cons (pr_lst pl_nil rfl) (pn_cons (pr_of pd_int) (pn_cons (pr_of pd_int) pn_nil))) rfl
    (mo_seq (psd_for PassesOwn.never rfl (pit_d (pd_of (pr_slN (pv 0) pod_none (pod_some pd_int)))) (pgd_name (pg_name (i := 2) sc__law_jar.nd rfl (.inl rfl))) (pssd_cons (psd_set (i := 3) sc__law_jar.nd rfl (.inl rfl) (pr_if (pb_cmpN op_dGe (nomark _) (pv 2) (pv_ofD pd_int)) (pr_bin op_dMul pd_int (pv_of (pr_callTy cl_int (by rfl) T.m_int (by decide +kernel) (plv_one (pv_var (pv 2)))))) (pr_bin op_dSub pd_int (pv_of (pr_bin op_dMul pd_int (pv_of (pr_callTy cl_int (by rfl) T.m_int (by decide +kernel) (plv_one (pv_var (pv 2))))))))))
    (pssd_cons (psd_jput (k := 1) (jarO_open _ _) (pv 1) rfl (pd_of (pr_bin op_dMod (pd_of (pr_callTy cl_int (by rfl) T.m_int (by decide +kernel) (plv_one (pv_of (pr_bin op_dAdd (pd_of (pr_bin op_dAdd (pd_of (pr_bin op_dMul (pd_of (pr_jd (k := 1) (pv 1) rfl)) (pv_ofD pd_int))) (pv_of (pr_bin op_dMod (pd_of (pr_callTy cl_int (by rfl) T.m_int (by decide +kernel) (plv_one (pv_var (pv 3))))) (pv_ofD pd_int))))) (pv_ofD pd_int)))))) (pv_ofD pd_int))))
    (pssd_cons (psd_if (pb_cmpN op_dGe (nomark _) (pv 3) (pv_of (pr_bin op_dPow pd_int (pv_ofD pd_int)))) (pssd_cons (psd_expr (pr_japp (k := 0) (jarO_open _ _) (pv 1) rfl (pd_of (pr_bin op_dMod (pd_of (pr_callTy cl_int (by rfl) T.m_int (by decide +kernel) (plv_one (pv_var (pv 3))))) (pv_of (pr_bin op_dPow (pd_of (pr_bin op_dPow pd_int (pv_ofD pd_int))) (pv_ofD pd_int)))))))
    pssd_nil) pssd_nil)
    pssd_nil))))
    (mo_seq (psd_jput (k := 2) (jarO_open _ _) (pv 1) rfl (pd_of (pr_bin op_dMod (pd_of (pr_callTy cl_int (by rfl) T.m_int (by decide +kernel) (plv_one (pv_of (pr_bin op_dAdd (pd_of (pr_bin op_dMul (pd_of (pr_jd (k := 1) (pv 1) rfl)) (pv_ofD pd_int))) (pv_ofD pd_int)))))) (pv_ofD pd_int))))
    (mo_ret (pv 1)))))
theorem ok__law_jar {f : Addr} {fd : FuncData} (F : FnP K "_law_jar" s__law_jar f fd) (hx : mg "_law_jar" = some (.ref f)) (T : Tx K w mg)  : CalM P w K mg base 1 "_law_jar" s__law_jar ["script"] pp__law_jar :=
  makeD_ok (qs := q__law_jar) (J := jarN K good) F hx sc__law_jar (FunD.bindsN F fun _ _ _ _ _ _ us hl => match us, hl with | [_], _ => rfl) len__law_jar rfl (body__law_jar T ) spec__law_jar
abbrev N__law_draw : List Str := ["jar", "many", "place", "size", "habit"]
theorem sc__law_draw : FnScope N__law_draw ["jar", "many", "place"] (defScope s__law_draw) := ⟨rfl, rfl, rfl, by decide +kernel, rfl, by decide +kernel, by decide +kernel⟩
theorem body__law_draw {f : Addr} (T : Tx K w mg) (cdv : Value) (A : Around) (outer : List Env) (s : Shared) (H : Hp) (E : XK) (hr : Room 0 (A.deeper (envOfC "_law_draw" (defScope s__law_draw) s.heap.objs.size f cdv))) :
    PSsd (jarO K 0) (cxOf CX0 P w K mg base N__law_draw "_law_draw" (defScope s__law_draw) f cdv A outer s H E).nox (defBody s__law_draw) q__law_draw :=
  (pssd_cons (psd_if (pb_cmpN op_dLt (nomark _) (pv 1) (pv_ofD pd_int)) (pssd_cons (psd_ret (pr_of pd_int))
    pssd_nil) pssd_nil)
    (pssd_cons (psd_if (pb_cmp op_dGt (nomark _) (pd_of (pr_jlen (k := 0) (pv 0) rfl (by rfl) T.m_len (by decide +kernel))) (pv_ofD pd_int)) (pssd_cons (psd_set (i := 3) sc__law_draw.nd rfl (.inl rfl) (pr_callTy cl_int (by rfl) T.m_int (by decide +kernel) (plv_one (pv_of (pr_jpop (k := 0) (jarO_open _ _) (pv 0) rfl)))))
    (pssd_cons (psd_if (pb_cmpN op_dGe (nomark _) (pv 3) (pv_var (pv 1))) (pssd_cons (psd_expr (pr_japp (k := 0) (jarO_open _ _) (pv 0) rfl (pd_of (pr_binN op_dFdiv (pv 3) (pv_var (pv 1))))))
    pssd_nil) pssd_nil)
    (pssd_cons (psd_ret (pr_bin op_dMod (pd_of (pr_callTy cl_int (by rfl) T.m_int (by decide +kernel) (plv_one (pv_var (pv 3))))) (pv_var (pv 1))))
    pssd_nil))) pssd_nil)
    (pssd_cons (psd_jput (k := 1) (jarO_open _ _) (pv 0) rfl (pd_of (pr_bin op_dMod (pd_of (pr_callTy cl_int (by rfl) T.m_int (by decide +kernel) (plv_one (pv_of (pr_bin op_dAdd (pd_of (pr_bin op_dMul (pd_of (pr_jd (k := 1) (pv 0) rfl)) (pv_ofD pd_int))) (pv_ofD pd_int)))))) (pv_ofD pd_int))))
    (pssd_cons (psd_set (i := 4) sc__law_draw.nd rfl (.inl rfl) (pr_bin op_dMod (pd_of (pr_bin op_dMod (pd_of (pr_callTy cl_int (by rfl) T.m_int (by decide +kernel) (plv_one (pv_of (pr_bin op_dAdd (pd_of (pr_bin op_dMul (pd_of (pr_jd (k := 2) (pv 0) rfl)) (pv_of (pr_binN op_dAdd (pv 2) (pv_ofD pd_int))))) (pv_of (pr_binN op_dMul (pv 2) (pv_ofD pd_int)))))))) (pv_ofD pd_int))) (pv_ofD pd_int)))
    (pssd_cons (psd_if (pb_cmpN op_dLt (nomark _) (pv 4) (pv_ofD pd_int)) (pssd_cons (psd_ret (pr_if (pb_cmpN (op_dEq hr.units) (nomark _) (pv 4) (pv_ofD pd_int)) (pr_of pd_int) (pr_binN op_dSub (pv 1) (pv_ofD pd_int))))
    pssd_nil) pssd_nil)
    (pssd_cons (psd_if (pb_cmpN (op_dEq hr.units) (nomark _) (pv 4) (pv_ofD pd_int)) (pssd_cons (psd_ret (pr_bin op_dMod (pd_of (pr_callTy cl_int (by rfl) T.m_int (by decide +kernel) (plv_one (pv_of (pr_bin op_dAdd (pd_of (pr_jd (k := 2) (pv 0) rfl)) (pv_of (pr_bin op_dMul pd_int (pv_var (pv 2))))))))) (pv_var (pv 1))))
    pssd_nil) pssd_nil)
    (pssd_cons (psd_ret (pr_bin op_dMod (pd_of (pr_callTy cl_int (by rfl) T.m_int (by decide +kernel) (plv_one (pv_of (pr_bin op_dFdiv (pd_of (pr_jd (k := 1) (pv 0) rfl)) (pv_ofD pd_int)))))) (pv_var (pv 1))))
    pssd_nil)))))))
theorem ok__law_draw {f : Addr} {fd : FuncData} (F : FnP K "_law_draw" s__law_draw f fd) (hx : mg "_law_draw" = some (.ref f)) (T : Tx K w mg) : CalD P w K mg base (jarN K good) 1 "_law_draw" s__law_draw ["jar", "many", "place"] pp__law_draw :=
  openD_ok (qs := q__law_draw) F hx sc__law_draw (FunD.bindsN F fun _ _ _ _ _ _ us hl => match us, hl with | [_, _, _], _ => rfl) len__law_draw (body__law_draw T) spec__law_draw
abbrev N__law_plain : List Str := ["jar", "many", "first", "at"]
theorem sc__law_plain : FnScope N__law_plain ["jar", "many"] (defScope s__law_plain) := ⟨rfl, rfl, rfl, by decide +kernel, rfl, by decide +kernel, by decide +kernel⟩
theorem body__law_plain {f : Addr} (T : Tx K w mg) (c__law_draw : CalD P w K mg base J 1 "_law_draw" s__law_draw ["jar", "many", "place"] pp__law_draw) (cdv : Value) (A : Around) (outer : List Env) (s : Shared) (H : Hp) (E : XK) (hr : Room 1 (A.deeper (envOfC "_law_plain" (defScope s__law_plain) s.heap.objs.size f cdv))) :
    PSsd J (cxOf CX0 P w K mg base N__law_plain "_law_plain" (defScope s__law_plain) f cdv A outer s H E).nox (defBody s__law_plain) q__law_plain :=
  (pssd_cons (psd_set (i := 2) sc__law_plain.nd rfl (.inr rfl) (pr_callC c__law_draw hr (by decide) (by rfl) (paa_n (pv 0) (paa_d pd_int (paa_d pd_int paa_nil)))))
    (pssd_cons (psd_ret (pr_of (pd_join pd_str (pv_of (pr_lc (own := [("at", 3)]) rfl sc__law_plain.nd (pit_r1 (by rfl) T.m_range (pl_cons (pd_var (pv 1)) pl_nil)) (blkOk_by (N := N__law_plain) (sc := defScope s__law_plain) (by decide +kernel)) (fun s1 H1 C1 cl1 fp1 => (pgd_name (pg_name (i := 3) sc__law_plain.nd rfl (.inl rfl)))) (fun s1 H1 C1 cl1 fp1 => ptsd_nil) (fun s1 H1 C1 cl1 fp1 => (pd_of (pr_if (pb_cmp (op_dEq hr.units) (nomark _) (pd_of (pr_bin op_dMod (pd_of (pr_callTy cl_int (by rfl) T.m_int (by decide +kernel) (plv_one (pv_of (pr_binN op_dAdd (pv 3) (pv_var (pv 2))))))) (pv_ofD pd_int))) (pv_ofD pd_int)) (pr_of pd_str) (pr_ix pd_str (pv_of (pr_callC c__law_draw hr (by decide) (by rfl) (paa_n (pv 0) (paa_d pd_int (paa_d pd_int paa_nil))))) (fun _ _ => rfl))))) (by decide))))))
    pssd_nil))
theorem ok__law_plain {f : Addr} {fd : FuncData} (F : FnP K "_law_plain" s__law_plain f fd) (hx : mg "_law_plain" = some (.ref f)) (T : Tx K w mg) (hj : J.jx = none) (c__law_draw : CalD P w K mg base J 1 "_law_draw" s__law_draw ["jar", "many", "place"] pp__law_draw) : CalD P w K mg base J 2 "_law_plain" s__law_plain ["jar", "many"] pp__law_plain :=
  defD_ok (qs := q__law_plain) hj F hx sc__law_plain (FunD.bindsN F fun _ _ _ _ _ _ us hl => match us, hl with | [_, _], _ => rfl) len__law_plain (body__law_plain T c__law_draw) spec__law_plain
abbrev N__law_letters : List Str := ["jar", "many", "place", "at"]
theorem sc__law_letters : FnScope N__law_letters ["jar", "many", "place"] (defScope s__law_letters) := ⟨rfl, rfl, rfl, by decide +kernel, rfl, by decide +kernel, by decide +kernel⟩
theorem body__law_letters {f : Addr} (T : Tx K w mg) (c__law_draw : CalD P w K mg base J 1 "_law_draw" s__law_draw ["jar", "many", "place"] pp__law_draw) (cdv : Value) (A : Around) (outer : List Env) (s : Shared) (H : Hp) (E : XK) (hr : Room 1 (A.deeper (envOfC "_law_letters" (defScope s__law_letters) s.heap.objs.size f cdv))) :
    PSsd J (cxOf CX0 P w K mg base N__law_letters "_law_letters" (defScope s__law_letters) f cdv A outer s H E).nox (defBody s__law_letters) q__law_letters :=
  (pssd_cons (psd_ret (pr_of (pd_join pd_str (pv_of (pr_lc (own := [("at", 3)]) rfl sc__law_letters.nd (pit_r1 (by rfl) T.m_range (pl_cons (pd_var (pv 1)) pl_nil)) (blkOk_by (N := N__law_letters) (sc := defScope s__law_letters) (by decide +kernel)) (fun s1 H1 C1 cl1 fp1 => (pgd_name (pg_name (i := 3) sc__law_letters.nd rfl (.inl rfl)))) (fun s1 H1 C1 cl1 fp1 => ptsd_nil) (fun s1 H1 C1 cl1 fp1 => (pd_of (pr_ix pd_str (pv_of (pr_callC c__law_draw hr (by decide) (by rfl) (paa_n (pv 0) (paa_d pd_int (paa_n (pv 2) paa_nil))))) (fun _ _ => rfl)))) (by decide))))))
    pssd_nil)
theorem ok__law_letters {f : Addr} {fd : FuncData} (F : FnP K "_law_letters" s__law_letters f fd) (hx : mg "_law_letters" = some (.ref f)) (T : Tx K w mg) (hj : J.jx = none) (c__law_draw : CalD P w K mg base J 1 "_law_draw" s__law_draw ["jar", "many", "place"] pp__law_draw) : CalD P w K mg base J 2 "_law_letters" s__law_letters ["jar", "many", "place"] pp__law_letters :=
  defD_ok (qs := q__law_letters) hj F hx sc__law_letters (FunD.bindsN F fun _ _ _ _ _ _ us hl => match us, hl with | [_, _, _], _ => rfl) len__law_letters (body__law_letters T c__law_draw) spec__law_letters
abbrev N__law_puffed : List Str := ["jar", "word", "lap", "at", "more"]
theorem sc__law_puffed : FnScope N__law_puffed ["jar", "word"] (defScope s__law_puffed) := ⟨rfl, rfl, rfl, by decide +kernel, rfl, by decide +kernel, by decide +kernel⟩
theorem body__law_puffed {f : Addr} (T : Tx K w mg) (c__law_draw : CalD P w K mg base J 1 "_law_draw" s__law_draw ["jar", "many", "place"] pp__law_draw) (cdv : Value) (A : Around) (outer : List Env) (s : Shared) (H : Hp) (E : XK) (hr : Room 1 (A.deeper (envOfC "_law_puffed" (defScope s__law_puffed) s.heap.objs.size f cdv))) :
    PSsd J (cxOf CX0 P w K mg base N__law_puffed "_law_puffed" (defScope s__law_puffed) f cdv A outer s H E).nox (defBody s__law_puffed) (qSeq (qFor (qRng1 (qCons (qDR (qCall pp__law_draw (qaN 0 (qaD (qC (.int 7)) (qaD (qC (.int 1)) qaNil))))) qNil)) (qgName 2) (qSeq (qSet 3 (qCall pp__law_draw (qaN 0 (qaD (qDR (qBin dAdd (qDR (qCl cLen (qCons (qLook 1) qNil))) (qC (.int 1)))) (qaD (qC (.int 2)) qaNil)))))
    (qSeq (qSet 4 (qBin dIx (qTup (qCons (qC (.str "ss")) (qCons (qC (.str "vw")) (qCons (qC (.str "wv")) (qCons (qC (.str "www")) (qCons (qC (.str "vvv")) qNil)))))) (qDR (qCall pp__law_draw (qaN 0 (qaD (qC (.int 5)) (qaD (qC (.int 3)) qaNil)))))))
    (qSeq (qIfS (qAnd (qTst (qBin dEq (qDR (qCall pp__law_draw (qaN 0 (qaD (qC (.int 2)) (qaD (qC (.int 4)) qaNil))))) (qC (.int 0)))) (qAnd (qTst (qBinM dLt 3 (qDR (qCl cLen (qCons (qLook 1) qNil))))) (qTst (qBin dNe (qDR (qBinM dIx 1 (qLook 3))) (qC (.str "s")))))) (qSeq (qSet 4 (qIf (qTst (qBin dEq (qDR (qBinM dIx 1 (qLook 3))) (qC (.str "w")))) (qRD (qC (.str "vv"))) (qRD (qC (.str "ww")))))
    (qSeq (qIfS (qTst (qBin dLt (qDR (qCl cLen (qCons (qLook 1) qNil))) (qC (.int 200)))) (qSeq (qSet 1 (qBin dAdd (qDR (qBin dAdd (qDR (qSlN 1 qO0 (qO1 (qVar 3)))) (qLook 4))) (qDR (qSlN 1 (qO1 (qDR (qBinM dAdd 3 (qC (.int 1))))) qO0))))
    qNext) qNext)
    qNext)) (qSeq (qIfS (qTst (qBin dLe (qDR (qBin dAdd (qDR (qCl cLen (qCons (qLook 1) qNil))) (qDR (qCl cLen (qCons (qLook 4) qNil))))) (qC (.int 200)))) (qSeq (qSet 1 (qBin dAdd (qDR (qBin dAdd (qDR (qSlN 1 qO0 (qO1 (qVar 3)))) (qLook 4))) (qDR (qSlN 1 (qO1 (qVar 3)) qO0))))
    qNext) qNext)
    qNext))
    qNext))))
    (qSeq (qRet (qMove 1))
    qNext)) :=
  (pssd_cons (psd_for PassesOwn.never rfl (pit_r1 (by rfl) T.m_range (pl_cons (pd_of (pr_callC c__law_draw hr (by decide) (by rfl) (paa_n (pv 0) (paa_d pd_int (paa_d pd_int paa_nil))))) pl_nil)) (pgd_name (pg_name (i := 2) sc__law_puffed.nd rfl (.inl rfl))) (pssd_cons (psd_set (i := 3) sc__law_puffed.nd rfl (.inl rfl) (pr_callC c__law_draw hr (by decide) (by rfl) (paa_n (pv 0) (paa_d (pd_of (pr_bin op_dAdd (pd_of (pr_callB cl_len (by rfl) T.m_len (by decide +kernel) (plv_one (pv_var (pv 1))))) (pv_ofD pd_int))) (paa_d pd_int paa_nil)))))
    (pssd_cons (psd_set (i := 4) sc__law_puffed.nd rfl (.inl rfl) (pr_ix (pd_tup (pl_cons pd_str (pl_cons pd_str (pl_cons pd_str (pl_cons pd_str (pl_cons pd_str pl_nil))))) rfl) (pv_of (pr_callC c__law_draw hr (by decide) (by rfl) (paa_n (pv 0) (paa_d pd_int (paa_d pd_int paa_nil))))) (fun _ _ => rfl)))
    (pssd_cons (psd_if (pb_w (pwd_and (pb_cmp (op_dEq hr.units) (nomark _) (pd_of (pr_callC c__law_draw hr (by decide) (by rfl) (paa_n (pv 0) (paa_d pd_int (paa_d pd_int paa_nil))))) (pv_ofD pd_int)) (pwd_and (pb_cmpN op_dLt (nomark _) (pv 3) (pv_of (pr_callB cl_len (by rfl) T.m_len (by decide +kernel) (plv_one (pv_var (pv 1)))))) (pwd_and1 (pb_cmp (op_dNe hr.units) (nomark _) (pd_of (pr_ixN (pv 1) (pv_var (pv 3)) (fun _ _ => rfl))) (pv_ofD pd_str)))))) (pssd_cons (psd_set (i := 4) sc__law_puffed.nd rfl (.inl rfl) (pr_if (pb_cmp (op_dEq hr.units) (nomark _) (pd_of (pr_ixN (pv 1) (pv_var (pv 3)) (fun _ _ => rfl))) (pv_ofD pd_str)) (pr_of pd_str) (pr_of pd_str)))
    (pssd_cons (psd_if (pb_cmp op_dLt (nomark _) (pd_of (pr_callB cl_len (by rfl) T.m_len (by decide +kernel) (plv_one (pv_var (pv 1))))) (pv_ofD pd_int)) (pssd_cons (psd_set (i := 1) sc__law_puffed.nd rfl (.inl rfl) (pr_bin op_dAdd (pd_of (pr_bin op_dAdd (pd_of (pr_slN (pv 1) pod_none (pod_some (pd_var (pv 3))))) (pv_var (pv 4)))) (pv_of (pr_slN (pv 1) (pod_some (pd_of (pr_binN op_dAdd (pv 3) (pv_ofD pd_int)))) pod_none))))
    pssd_nil) pssd_nil)
    pssd_nil)) (pssd_cons (psd_if (pb_cmp op_dLe (nomark _) (pd_of (pr_bin op_dAdd (pd_of (pr_callB cl_len (by rfl) T.m_len (by decide +kernel) (plv_one (pv_var (pv 1))))) (pv_of (pr_callB cl_len (by rfl) T.m_len (by decide +kernel) (plv_one (pv_var (pv 4))))))) (pv_ofD pd_int)) (pssd_cons (psd_set (i := 1) sc__law_puffed.nd rfl (.inl rfl) (pr_bin op_dAdd (pd_of (pr_bin op_dAdd (pd_of (pr_slN (pv 1) pod_none (pod_some (pd_var (pv 3))))) (pv_var (pv 4)))) (pv_of (pr_slN (pv 1) (pod_some (pd_var (pv 3))) pod_none))))
    pssd_nil) pssd_nil)
    pssd_nil))
    pssd_nil))))
    (pssd_cons (psd_ret (pr_var (pv 1)))
    pssd_nil))
theorem ok__law_puffed {f : Addr} {fd : FuncData} (F : FnP K "_law_puffed" s__law_puffed f fd) (hx : mg "_law_puffed" = some (.ref f)) (T : Tx K w mg) (hj : J.jx = none) (c__law_draw : CalD P w K mg base J 1 "_law_draw" s__law_draw ["jar", "many", "place"] pp__law_draw) : CalD P w K mg base J 2 "_law_puffed" s__law_puffed ["jar", "word"] pp__law_puffed :=
  defD_ok (qs := q__law_puffed) hj F hx sc__law_puffed (FunD.bindsN F fun _ _ _ _ _ _ us hl => match us, hl with | [_, _], _ => rfl) len__law_puffed (body__law_puffed T c__law_draw) spec__law_puffed
abbrev N__law_back : List Str := ["word", "letter"]
theorem sc__law_back : FnScope N__law_back ["word"] (defScope s__law_back) := ⟨rfl, rfl, rfl, by decide +kernel, rfl, by decide +kernel, by decide +kernel⟩
theorem body__law_back {f : Addr} (T : Tx K w mg)  (cdv : Value) (A : Around) (outer : List Env) (s : Shared) (H : Hp) (E : XK) (hr : Room 0 (A.deeper (envOfC "_law_back" (defScope s__law_back) s.heap.objs.size f cdv))) :
    PSsd J (cxOf CX0 P w K mg base N__law_back "_law_back" (defScope s__law_back) f cdv A outer s H E).nox (defBody s__law_back) q__law_back :=
  (pssd_cons (psd_ret (pr_of (pd_join pd_str (pv_of (pr_lc (own := [("letter", 1)]) rfl sc__law_back.nd (pit_d (pd_of (pr_rev (pv_var (pv 0))))) (blkOk_by (N := N__law_back) (sc := defScope s__law_back) (by decide +kernel)) (fun s1 H1 C1 cl1 fp1 => (pgd_name (pg_name (i := 1) sc__law_back.nd rfl (.inl rfl)))) (fun s1 H1 C1 cl1 fp1 => ptsd_nil) (fun s1 H1 C1 cl1 fp1 => (pd_of (pr_ix pd_str (pv_of (pr_of (pd_sindex pd_str (pd_var (pv 1))))) (fun _ _ => rfl)))) (by decide))))))
    pssd_nil)
theorem ok__law_back {f : Addr} {fd : FuncData} (F : FnP K "_law_back" s__law_back f fd) (hx : mg "_law_back" = some (.ref f)) (T : Tx K w mg) (hj : J.jx = none)  : CalD P w K mg base J 1 "_law_back" s__law_back ["word"] pp__law_back :=
  defD_ok (qs := q__law_back) hj F hx sc__law_back (FunD.bindsN F fun _ _ _ _ _ _ us hl => match us, hl with | [_], _ => rfl) len__law_back (body__law_back T ) spec__law_back
abbrev N__law_words : List Str := ["jar", "long", "kinds", "words", "kind", "ahead"]
theorem sc__law_words : FnScope N__law_words ["jar"] (defScope s__law_words) := ⟨rfl, rfl, rfl, by decide +kernel, rfl, by decide +kernel, by decide +kernel⟩
theorem body__law_words {f : Addr} (T : Tx K w mg) (c__law_draw : CalD P w K mg base J 1 "_law_draw" s__law_draw ["jar", "many", "place"] pp__law_draw) (c__law_plain : CalD P w K mg base J 2 "_law_plain" s__law_plain ["jar", "many"] pp__law_plain) (c__law_letters : CalD P w K mg base J 2 "_law_letters" s__law_letters ["jar", "many", "place"] pp__law_letters) (c__law_puffed : CalD P w K mg base J 2 "_law_puffed" s__law_puffed ["jar", "word"] pp__law_puffed) (c__law_back : CalD P w K mg base J 1 "_law_back" s__law_back ["word"] pp__law_back) (cdv : Value) (A : Around) (outer : List Env) (s : Shared) (H : Hp) (E : XK) (hr : Room 2 (A.deeper (envOfC "_law_words" (defScope s__law_words) s.heap.objs.size f cdv))) :
    PSsd J (cxOf CX0 P w K mg base N__law_words "_law_words" (defScope s__law_words) f cdv A outer s H E).nox (defBody s__law_words) (qSeq (qSet 1 (qBin dNe (qDR (qCall pp__law_draw (qaN 0 (qaD (qC (.int 3)) (qaD (qC (.int 5)) qaNil))))) (qC (.int 1))))
    (qSeq (qSet 2 (qLst (qCons (qC (.str "")) (qCons (qC (.str "s")) (qCons (qDR (qBin dIx (qTup (qCons (qC (.str "w")) (qCons (qC (.str "v")) qNil))) (qDR (qCall pp__law_draw (qaN 0 (qaD (qC (.int 2)) (qaD (qC (.int 6)) qaNil))))))) qNil)))))
    (qSeq (qDrop (qApp 2 (qDR (qBin dMul (qDR (qBin dIx (qTup (qCons (qC (.str "sw")) (qCons (qC (.str "ws")) (qCons (qC (.str "sv")) (qCons (qC (.str "vs")) qNil))))) (qDR (qCall pp__law_draw (qaN 0 (qaD (qC (.int 4)) (qaD (qC (.int 7)) qaNil))))))) (qDR (qBin dAdd (qC (.int 1)) (qDR (qCall pp__law_draw (qaN 0 (qaD (qC (.int 9)) (qaD (qC (.int 8)) qaNil)))))))))))
    (qSeq (qDrop (qApp 2 (qDR (qBin dAdd (qDR (qBin dMul (qC (.str "ws")) (qDR (qBin dAdd (qC (.int 1)) (qDR (qCall pp__law_draw (qaN 0 (qaD (qC (.int 6)) (qaD (qC (.int 9)) qaNil))))))))) (qDR (qBin dMul (qC (.str "vs")) (qDR (qBin dAdd (qC (.int 1)) (qDR (qCall pp__law_draw (qaN 0 (qaD (qC (.int 6)) (qaD (qC (.int 10)) qaNil)))))))))))))
    (qSeq (qSet 3 (qLst qNil))
    (qSeq (qFor (qItD (qVar 2)) (qgName 4) (qSeq (qSet 5 (qCall pp__law_plain (qaN 0 (qaD (qDR (qIf (qTru (qVar 1)) (qBin dAdd (qC (.int 30)) (qDR (qCall pp__law_draw (qaN 0 (qaD (qC (.int 59)) (qaD (qC (.int 11)) qaNil)))))) (qCall pp__law_draw (qaN 0 (qaD (qC (.int 13)) (qaD (qC (.int 16)) qaNil)))))) qaNil))))
    (qSeq (qDrop (qApp 3 (qDR (qCall pp__law_puffed (qaN 0 (qaD (qDR (qBin dAdd (qDR (qBinM dAdd 5 (qLook 4))) (qDR (qCall pp__law_back (qaN 5 qaNil))))) qaNil))))))
    qNext)))
    (qSeq (qDrop (qApp 3 (qDR (qCall pp__law_letters (qaN 0 (qaD (qDR (qCall pp__law_draw (qaN 0 (qaD (qC (.int 31)) (qaD (qC (.int 13)) qaNil))))) (qaD (qC (.int 14)) qaNil)))))))
    (qSeq (qRet (qMove 3))
    qNext)))))))) :=
  (pssd_cons (psd_set (i := 1) sc__law_words.nd rfl (.inl rfl) (pr_cmp (op_dNe hr.units) (nomark _) (pd_of (pr_callC c__law_draw hr (by decide) (by rfl) (paa_n (pv 0) (paa_d pd_int (paa_d pd_int paa_nil))))) (pv_ofD pd_int)))
    (pssd_cons (psd_set (i := 2) sc__law_words.nd rfl (.inl rfl) (pr_lst (pl_cons pd_str (pl_cons pd_str (pl_cons (pd_of (pr_ix (pd_tup (pl_cons pd_str (pl_cons pd_str pl_nil)) rfl) (pv_of (pr_callC c__law_draw hr (by decide) (by rfl) (paa_n (pv 0) (paa_d pd_int (paa_d pd_int paa_nil))))) (fun _ _ => rfl))) pl_nil))) rfl))
    (pssd_cons (psd_expr (pr_app (pv 2) (pd_of (pr_bin op_dMul (pd_of (pr_ix (pd_tup (pl_cons pd_str (pl_cons pd_str (pl_cons pd_str (pl_cons pd_str pl_nil)))) rfl) (pv_of (pr_callC c__law_draw hr (by decide) (by rfl) (paa_n (pv 0) (paa_d pd_int (paa_d pd_int paa_nil))))) (fun _ _ => rfl))) (pv_of (pr_bin op_dAdd pd_int (pv_of (pr_callC c__law_draw hr (by decide) (by rfl) (paa_n (pv 0) (paa_d pd_int (paa_d pd_int paa_nil)))))))))))
    (pssd_cons (psd_expr (pr_app (pv 2) (pd_of (pr_bin op_dAdd (pd_of (pr_bin op_dMul pd_str (pv_of (pr_bin op_dAdd pd_int (pv_of (pr_callC c__law_draw hr (by decide) (by rfl) (paa_n (pv 0) (paa_d pd_int (paa_d pd_int paa_nil))))))))) (pv_of (pr_bin op_dMul pd_str (pv_of (pr_bin op_dAdd pd_int (pv_of (pr_callC c__law_draw hr (by decide) (by rfl) (paa_n (pv 0) (paa_d pd_int (paa_d pd_int paa_nil)))))))))))))
    (pssd_cons (psd_set (i := 3) sc__law_words.nd rfl (.inl rfl) (pr_lst pl_nil rfl))
    (pssd_cons (psd_for PassesOwn.never rfl (pit_d (pd_var (pv 2))) (pgd_name (pg_name (i := 4) sc__law_words.nd rfl (.inl rfl))) (pssd_cons (psd_set (i := 5) sc__law_words.nd rfl (.inl rfl) (pr_callC c__law_plain hr (by decide) (by rfl) (paa_n (pv 0) (paa_d (pd_of (pr_if (pb_tru (pd_var (pv 1)) (by intro _; rfl)) (pr_bin op_dAdd pd_int (pv_of (pr_callC c__law_draw hr (by decide) (by rfl) (paa_n (pv 0) (paa_d pd_int (paa_d pd_int paa_nil)))))) (pr_callC c__law_draw hr (by decide) (by rfl) (paa_n (pv 0) (paa_d pd_int (paa_d pd_int paa_nil)))))) paa_nil))))
    (pssd_cons (psd_expr (pr_app (pv 3) (pd_of (pr_callC c__law_puffed hr (by decide) (by rfl) (paa_n (pv 0) (paa_d (pd_of (pr_bin op_dAdd (pd_of (pr_binN op_dAdd (pv 5) (pv_var (pv 4)))) (pv_of (pr_callC c__law_back hr (by decide) (by rfl) (paa_n (pv 5) paa_nil))))) paa_nil))))))
    pssd_nil)))
    (pssd_cons (psd_expr (pr_app (pv 3) (pd_of (pr_callC c__law_letters hr (by decide) (by rfl) (paa_n (pv 0) (paa_d (pd_of (pr_callC c__law_draw hr (by decide) (by rfl) (paa_n (pv 0) (paa_d pd_int (paa_d pd_int paa_nil))))) (paa_d pd_int paa_nil)))))))
    (pssd_cons (psd_ret (pr_var (pv 3)))
    pssd_nil))))))))
theorem ok__law_words {f : Addr} {fd : FuncData} (F : FnP K "_law_words" s__law_words f fd) (hx : mg "_law_words" = some (.ref f)) (T : Tx K w mg) (hj : J.jx = none) (c__law_draw : CalD P w K mg base J 1 "_law_draw" s__law_draw ["jar", "many", "place"] pp__law_draw) (c__law_plain : CalD P w K mg base J 2 "_law_plain" s__law_plain ["jar", "many"] pp__law_plain) (c__law_letters : CalD P w K mg base J 2 "_law_letters" s__law_letters ["jar", "many", "place"] pp__law_letters) (c__law_puffed : CalD P w K mg base J 2 "_law_puffed" s__law_puffed ["jar", "word"] pp__law_puffed) (c__law_back : CalD P w K mg base J 1 "_law_back" s__law_back ["word"] pp__law_back) : CalD P w K mg base J 3 "_law_words" s__law_words ["jar"] pp__law_words :=
  defD_ok (qs := q__law_words) hj F hx sc__law_words (FunD.bindsN F fun _ _ _ _ _ _ us hl => match us, hl with | [_], _ => rfl) len__law_words (body__law_words T c__law_draw c__law_plain c__law_letters c__law_puffed c__law_back) spec__law_words
abbrev N_reduced : List Str := ["word", "found", "letter"]
theorem sc_reduced : FnScope N_reduced ["word"] (defScope s_reduced) := ⟨rfl, rfl, rfl, by decide +kernel, rfl, by decide +kernel, by decide +kernel⟩
theorem body_reduced {f : Addr} (T : Tx K w mg)  (cdv : Value) (A : Around) (outer : List Env) (s : Shared) (H : Hp) (E : XK) (hr : Room 0 (A.deeper (envOfC "reduced" (defScope s_reduced) s.heap.objs.size f cdv))) :
    PSsd J (cxOf CX0 P w K mg base N_reduced "reduced" (defScope s_reduced) f cdv A outer s H E).nox (defBody s_reduced) q_reduced :=
  (pssd_cons (psd_set (i := 1) sc_reduced.nd rfl (.inl rfl) (pr_lst pl_nil rfl))
    (pssd_cons (psd_for PassesOwn.never rfl (pit_d (pd_var (pv 0))) (pgd_name (pg_name (i := 2) sc_reduced.nd rfl (.inl rfl))) (pssd_cons (psd_while PassesOwn.never (pb_w (pwd_and (pb_cmpN (op_dNe hr.units) (nomark _) (pv 2) (pv_ofD pd_str)) (pwd_and (pb_cmp op_dGt (nomark _) (pd_of (pr_callB cl_len (by rfl) T.m_len (by decide +kernel) (plv_one (pv_var (pv 1))))) (pv_ofD pd_int)) (pwd_and1 (pb_kin T.d_PRODUCTS (by rfl) (pd_of (pr_bin op_dAdd (pd_of (pr_ixN (pv 1) (pv_ofD (pd_neg pd_int)) (fun _ _ => rfl))) (pv_var (pv 2))))))))) (pssd_cons (psd_set (i := 2) sc_reduced.nd rfl (.inl rfl) (pr_of (pd_kget T.d_PRODUCTS (by rfl) (pd_of (pr_bin op_dAdd (pd_of (pr_pop (pv 1))) (pv_var (pv 2)))) (fun _ _ => rfl))))
    pssd_nil))
    (pssd_cons (psd_if (pb_cmpN (op_dNe hr.units) (nomark _) (pv 2) (pv_ofD pd_str)) (pssd_cons (psd_expr (pr_app (pv 1) (pd_var (pv 2))))
    pssd_nil) pssd_nil)
    pssd_nil)))
    (pssd_cons (psd_ret (pr_of (pd_join pd_str (pv_var (pv 1)))))
    pssd_nil)))
theorem ok_reduced {f : Addr} {fd : FuncData} (F : FnP K "reduced" s_reduced f fd) (hx : mg "reduced" = some (.ref f)) (T : Tx K w mg) (hj : J.jx = none)  : CalD P w K mg base J 1 "reduced" s_reduced ["word"] pp_reduced :=
  defD_ok (qs := q_reduced) hj F hx sc_reduced (FunD.bindsN F fun _ _ _ _ _ _ us hl => match us, hl with | [_], _ => rfl) len_reduced (body_reduced T ) spec_reduced
abbrev N_turn_order : List Str := ["word", "many"]
theorem sc_turn_order : FnScope N_turn_order ["word"] (defScope s_turn_order) := ⟨rfl, rfl, rfl, by decide +kernel, rfl, by decide +kernel, by decide +kernel⟩
theorem body_turn_order {f : Addr} (T : Tx K w mg) (c_reduced : CalD P w K mg base J 1 "reduced" s_reduced ["word"] pp_reduced) (cdv : Value) (A : Around) (outer : List Env) (s : Shared) (H : Hp) (E : XK) (hr : Room 1 (A.deeper (envOfC "turn_order" (defScope s_turn_order) s.heap.objs.size f cdv))) :
    PSsd J (cxOf CX0 P w K mg base N_turn_order "turn_order" (defScope s_turn_order) f cdv A outer s H E).nox (defBody s_turn_order) q_turn_order :=
  (pssd_cons (psd_for PassesOwn.never rfl (pit_d (pd_tup (pl_cons pd_int (pl_cons pd_int (pl_cons pd_int pl_nil))) rfl)) (pgd_name (pg_name (i := 1) sc_turn_order.nd rfl (.inl rfl))) (pssd_cons (psd_if (pb_cmp (op_dEq hr.units) (nomark _) (pd_of (pr_callC c_reduced hr (by decide) (by rfl) (paa_d (pd_of (pr_binN op_dMul (pv 0) (pv_var (pv 1)))) paa_nil))) (pv_ofD pd_str)) (pssd_cons (psd_ret (pr_var (pv 1)))
    pssd_nil) pssd_nil)
    pssd_nil))
    (pssd_cons (psd_ret (pr_of pd_non))
    pssd_nil))
theorem ok_turn_order {f : Addr} {fd : FuncData} (F : FnP K "turn_order" s_turn_order f fd) (hx : mg "turn_order" = some (.ref f)) (T : Tx K w mg) (hj : J.jx = none) (c_reduced : CalD P w K mg base J 1 "reduced" s_reduced ["word"] pp_reduced) : CalD P w K mg base J 2 "turn_order" s_turn_order ["word"] pp_turn_order :=
  defD_ok (qs := q_turn_order) hj F hx sc_turn_order (FunD.bindsN F fun _ _ _ _ _ _ us hl => match us, hl with | [_], _ => rfl) len_turn_order (body_turn_order T c_reduced) spec_turn_order
abbrev N_behind : List Str := ["one", "other", "a", "b", "c", "d", "e", "f", "g", "h"]
theorem sc_behind : FnScope N_behind ["one", "other"] (defScope s_behind) := ⟨rfl, rfl, rfl, by decide +kernel, rfl, by decide +kernel, by decide +kernel⟩
theorem body_behind {f : Addr} (T : Tx K w mg)  (cdv : Value) (A : Around) (outer : List Env) (s : Shared) (H : Hp) (E : XK) (hr : Room 0 (A.deeper (envOfC "behind" (defScope s_behind) s.heap.objs.size f cdv))) :
    PSsd J (cxOf CX0 P w K mg base N_behind "behind" (defScope s_behind) f cdv A outer s H E).nox (defBody s_behind) q_behind :=
  (pssd_cons (psd_asg (pd_var (pv 1)) (pgd_tup rfl (pgds_cons (pgd_name (pg_name (i := 2) sc_behind.nd rfl (.inl rfl))) (pgds_cons (pgd_name (pg_name (i := 3) sc_behind.nd rfl (.inl rfl))) (pgds_cons (pgd_name (pg_name (i := 4) sc_behind.nd rfl (.inl rfl))) (pgds_cons (pgd_name (pg_name (i := 5) sc_behind.nd rfl (.inl rfl))) pgds_nil))))))
    (pssd_cons (psd_asg (pd_var (pv 0)) (pgd_tup rfl (pgds_cons (pgd_name (pg_name (i := 6) sc_behind.nd rfl (.inl rfl))) (pgds_cons (pgd_name (pg_name (i := 7) sc_behind.nd rfl (.inl rfl))) (pgds_cons (pgd_name (pg_name (i := 8) sc_behind.nd rfl (.inl rfl))) (pgds_cons (pgd_name (pg_name (i := 9) sc_behind.nd rfl (.inl rfl))) pgds_nil))))))
    (pssd_cons (psd_ret (pr_of (pd_tup (pl_cons (pd_of (pr_bin op_dAdd (pd_of (pr_binN op_dMul (pv 2) (pv_var (pv 6)))) (pv_of (pr_binN op_dMul (pv 3) (pv_var (pv 8)))))) (pl_cons (pd_of (pr_bin op_dAdd (pd_of (pr_binN op_dMul (pv 2) (pv_var (pv 7)))) (pv_of (pr_binN op_dMul (pv 3) (pv_var (pv 9)))))) (pl_cons (pd_of (pr_bin op_dAdd (pd_of (pr_binN op_dMul (pv 4) (pv_var (pv 6)))) (pv_of (pr_binN op_dMul (pv 5) (pv_var (pv 8)))))) (pl_cons (pd_of (pr_bin op_dAdd (pd_of (pr_binN op_dMul (pv 4) (pv_var (pv 7)))) (pv_of (pr_binN op_dMul (pv 5) (pv_var (pv 9)))))) pl_nil)))) rfl)))
    pssd_nil)))
theorem ok_behind {f : Addr} {fd : FuncData} (F : FnP K "behind" s_behind f fd) (hx : mg "behind" = some (.ref f)) (T : Tx K w mg) (hj : J.jx = none)  : CalD P w K mg base J 1 "behind" s_behind ["one", "other"] pp_behind :=
  defD_ok (qs := q_behind) hj F hx sc_behind (FunD.bindsN F fun _ _ _ _ _ _ us hl => match us, hl with | [_, _], _ => rfl) len_behind (body_behind T ) spec_behind
abbrev N_lowest : List Str := ["p", "q", "common"]
theorem sc_lowest : FnScope N_lowest ["p", "q"] (defScope s_lowest) := ⟨rfl, rfl, rfl, by decide +kernel, rfl, by decide +kernel, by decide +kernel⟩
theorem body_lowest {f : Addr} (T : Tx K w mg)  (cdv : Value) (A : Around) (outer : List Env) (s : Shared) (H : Hp) (E : XK) (hr : Room 0 (A.deeper (envOfC "lowest" (defScope s_lowest) s.heap.objs.size f cdv))) :
    PSsd J (cxOf CX0 P w K mg base N_lowest "lowest" (defScope s_lowest) f cdv A outer s H E).nox (defBody s_lowest) q_lowest :=
  (pssd_cons (psd_if (pb_cmpN (op_dEq hr.units) (nomark _) (pv 1) (pv_ofD pd_int)) (pssd_cons (psd_ret (pr_of (pd_tup (pl_cons pd_int (pl_cons pd_int pl_nil)) rfl)))
    pssd_nil) pssd_nil)
    (pssd_cons (psd_set (i := 2) sc_lowest.nd rfl (.inl rfl) (pr_callF cl_gcd (by rfl) T.f_gcd (plv_cons (pd_var (pv 0)) (plv_one (pv_var (pv 1))))))
    (pssd_cons (psd_ret (pr_if (pb_cmpN op_dGt (nomark _) (pv 1) (pv_ofD pd_int)) (pr_of (pd_tup (pl_cons (pd_of (pr_binN op_dFdiv (pv 0) (pv_var (pv 2)))) (pl_cons (pd_of (pr_binN op_dFdiv (pv 1) (pv_var (pv 2)))) pl_nil)) rfl)) (pr_of (pd_tup (pl_cons (pd_of (pr_bin op_dFdiv (pd_neg (pd_var (pv 0))) (pv_var (pv 2)))) (pl_cons (pd_of (pr_bin op_dFdiv (pd_neg (pd_var (pv 1))) (pv_var (pv 2)))) pl_nil)) rfl))))
    pssd_nil)))
theorem ok_lowest {f : Addr} {fd : FuncData} (F : FnP K "lowest" s_lowest f fd) (hx : mg "lowest" = some (.ref f)) (T : Tx K w mg) (hj : J.jx = none)  : CalD P w K mg base J 1 "lowest" s_lowest ["p", "q"] pp_lowest :=
  defD_ok (qs := q_lowest) hj F hx sc_lowest (FunD.bindsN F fun _ _ _ _ _ _ us hl => match us, hl with | [_, _], _ => rfl) len_lowest (body_lowest T ) spec_lowest
abbrev N_held_tangle : List Str := ["word", "row", "letter", "a", "_", "c", "d"]
theorem sc_held_tangle : FnScope N_held_tangle ["word"] (defScope s_held_tangle) := ⟨rfl, rfl, rfl, by decide +kernel, rfl, by decide +kernel, by decide +kernel⟩
theorem body_held_tangle {f : Addr} (T : Tx K w mg) (c_behind : CalD P w K mg base J 1 "behind" s_behind ["one", "other"] pp_behind) (c_lowest : CalD P w K mg base J 1 "lowest" s_lowest ["p", "q"] pp_lowest) (cdv : Value) (A : Around) (outer : List Env) (s : Shared) (H : Hp) (E : XK) (hr : Room 1 (A.deeper (envOfC "held_tangle" (defScope s_held_tangle) s.heap.objs.size f cdv))) :
    PSsd J (cxOf CX0 P w K mg base N_held_tangle "held_tangle" (defScope s_held_tangle) f cdv A outer s H E).nox (defBody s_held_tangle) q_held_tangle :=
  (pssd_cons (psd_set (i := 1) sc_held_tangle.nd rfl (.inl rfl) (pr_of (pd_tup (pl_cons pd_int (pl_cons pd_int (pl_cons pd_int (pl_cons pd_int pl_nil)))) rfl)))
    (pssd_cons (psd_for PassesOwn.never rfl (pit_d (pd_var (pv 0))) (pgd_name (pg_name (i := 2) sc_held_tangle.nd rfl (.inl rfl))) (pssd_cons (psd_set (i := 1) sc_held_tangle.nd rfl (.inl rfl) (pr_callC c_behind hr (by decide) (by rfl) (paa_n (pv 1) (paa_d (pd_of (pr_of (pd_kget T.d_ROWS (by rfl) (pd_var (pv 2)) (fun _ _ => rfl)))) paa_nil))))
    pssd_nil))
    (pssd_cons (psd_asg (pd_var (pv 1)) (pgd_tup rfl (pgds_cons (pgd_name (pg_name (i := 3) sc_held_tangle.nd rfl (.inl rfl))) (pgds_cons (pgd_name (pg_name (i := 4) sc_held_tangle.nd rfl (.inl rfl))) (pgds_cons (pgd_name (pg_name (i := 5) sc_held_tangle.nd rfl (.inl rfl))) (pgds_cons (pgd_name (pg_name (i := 6) sc_held_tangle.nd rfl (.inl rfl))) pgds_nil))))))
    (pssd_cons (psd_if (pb_cmp (op_dNe hr.units) (nomark _) (pd_of (pr_callB cl_abs (by rfl) T.m_abs (by decide +kernel) (plv_one (pv_of (pr_binN op_dAdd (pv 3) (pv_var (pv 6))))))) (pv_ofD pd_int)) (pssd_cons (psd_ret (pr_of pd_non))
    pssd_nil) pssd_nil)
    (pssd_cons (psd_ret (pr_if (pb_cmpN (op_dEq hr.units) (nomark _) (pv 5) (pv_ofD pd_int)) (pr_of (pd_tup (pl_cons pd_int (pl_cons pd_int pl_nil)) rfl)) (pr_callC c_lowest hr (by decide) (by rfl) (paa_d (pd_of (pr_binN op_dSub (pv 3) (pv_var (pv 6)))) (paa_d (pd_of (pr_bin op_dMul pd_int (pv_var (pv 5)))) paa_nil)))))
    pssd_nil)))))
theorem ok_held_tangle {f : Addr} {fd : FuncData} (F : FnP K "held_tangle" s_held_tangle f fd) (hx : mg "held_tangle" = some (.ref f)) (T : Tx K w mg) (hj : J.jx = none) (c_behind : CalD P w K mg base J 1 "behind" s_behind ["one", "other"] pp_behind) (c_lowest : CalD P w K mg base J 1 "lowest" s_lowest ["p", "q"] pp_lowest) : CalD P w K mg base J 2 "held_tangle" s_held_tangle ["word"] pp_held_tangle :=
  defD_ok (qs := q_held_tangle) hj F hx sc_held_tangle (FunD.bindsN F fun _ _ _ _ _ _ us hl => match us, hl with | [_], _ => rfl) len_held_tangle (body_held_tangle T c_behind c_lowest) spec_held_tangle
abbrev N__law_same : List Str := ["told", "due", "at"]
theorem sc__law_same : FnScope N__law_same ["told", "due"] (defScope s__law_same) := ⟨rfl, rfl, rfl, by decide +kernel, rfl, by decide +kernel, by decide +kernel⟩
theorem body__law_same {f : Addr} {kk : Nat} {pp_rec : PPr} (T : Tx K w mg) (c_rec : CalD P w K mg base J (0 + kk) "_law_same" s__law_same ["told", "due"] pp_rec)  (cdv : Value) (A : Around) (outer : List Env) (s : Shared) (H : Hp) (E : XK) (hr : Room (0 + kk) (A.deeper (envOfC "_law_same" (defScope s__law_same) s.heap.objs.size f cdv))) :
    PSsd J (cxOf CX0 P w K mg base N__law_same "_law_same" (defScope s__law_same) f cdv A outer s H E).nox (defBody s__law_same) (q__law_same pp_rec) :=
  (pssd_cons (psd_if (pb_cmpN op_dIs (nomark _) (pv 1) (pv_ofD pd_non)) (pssd_cons (psd_ret (pr_cmpN op_dIs (nomark _) (pv 0) (pv_ofD pd_non)))
    pssd_nil) pssd_nil)
    (pssd_cons (psd_if (pb_tru (pd_isi (T := "tuple") (by rfl) T.m_isinstance (by decide +kernel) (by rfl) T.m_tuple (by decide +kernel) (pv_var (pv 1))) (by intro _; rfl)) (pssd_cons (psd_if (pb_w (pwd_or (pb_not (pb_tru (pd_isi (T := "tuple") (by rfl) T.m_isinstance (by decide +kernel) (by rfl) T.m_tuple (by decide +kernel) (pv_var (pv 0))) (by intro _; rfl))) (pwd_or1 (pb_cmp (op_dNe hr.units) (nomark _) (pd_of (pr_callB cl_len (by rfl) T.m_len (by decide +kernel) (plv_one (pv_var (pv 0))))) (pv_of (pr_callB cl_len (by rfl) T.m_len (by decide +kernel) (plv_one (pv_var (pv 1))))))))) (pssd_cons (psd_ret (pr_of pd_bl))
    pssd_nil) pssd_nil)
    (pssd_cons (psd_ret (pr_cmp (op_dEq hr.units) (nomark _) (pd_of (pr_callB cl_len (by rfl) T.m_len (by decide +kernel) (plv_one (pv_of (pr_lc (own := [("at", 2)]) rfl sc__law_same.nd (pit_r1 (by rfl) T.m_range (pl_cons (pd_of (pr_callB cl_len (by rfl) T.m_len (by decide +kernel) (plv_one (pv_var (pv 1))))) pl_nil)) (blkOk_by (N := N__law_same) (sc := defScope s__law_same) (by decide +kernel)) (fun s1 H1 C1 cl1 fp1 => (pgd_name (pg_name (i := 2) sc__law_same.nd rfl (.inl rfl)))) (fun s1 H1 C1 cl1 fp1 => (ptsd_one (pb_not (pb_tru (pd_of (pr_callC c_rec hr (Nat.le_refl _) (by rfl) (paa_d (pd_of (pr_ixN (pv 0) (pv_var (pv 2)) (fun _ _ => rfl))) (paa_d (pd_of (pr_ixN (pv 1) (pv_var (pv 2)) (fun _ _ => rfl))) paa_nil)))) (by intro _; rfl))))) (fun s1 H1 C1 cl1 fp1 => (pd_var (pv 2))) (by decide)))))) (pv_ofD pd_int)))
    pssd_nil)) pssd_nil)
    (pssd_cons (psd_ret (pr_of (pd_and (pd_isi (T := "int") (by rfl) T.m_isinstance (by decide +kernel) (by rfl) T.m_int (by decide +kernel) (pv_var (pv 0))) (pd_and (pd_not (pd_isi (T := "bool") (by rfl) T.m_isinstance (by decide +kernel) (by rfl) T.m_bool (by decide +kernel) (pv_var (pv 0)))) (pd_one (pd_of (pr_cmpN (op_dEq hr.units) (nomark _) (pv 0) (pv_var (pv 1)))))))))
    pssd_nil)))
theorem ok__law_same {f : Addr} {fd : FuncData} (F : FnP K "_law_same" s__law_same f fd) (hx : mg "_law_same" = some (.ref f)) (T : Tx K w mg) (hj : J.jx = none)  : ∀ kk, CalD P w K mg base J (0 + kk) "_law_same" s__law_same ["told", "due"] (ppr__law_same kk)
  | 0 => CalD.none hj F hx sc__law_same (FunD.bindsN F fun _ _ _ _ _ _ us hl => match us, hl with | [_, _], _ => rfl) (fun gs R h => h.elim)
  | kk + 1 => defD_ok (qs := q__law_same (ppr__law_same kk)) hj F hx sc__law_same (FunD.bindsN F fun _ _ _ _ _ _ us hl => match us, hl with | [_, _], _ => rfl) (len__law_same _) (body__law_same T (ok__law_same F hx T hj  kk) ) (spec__law_same kk)
abbrev N__law_matrix : List Str := ["word", "a", "b", "c", "d", "letter"]
theorem sc__law_matrix : FnScope N__law_matrix ["word"] (defScope s__law_matrix) := ⟨rfl, rfl, rfl, by decide +kernel, rfl, by decide +kernel, by decide +kernel⟩
theorem body__law_matrix {f : Addr} (T : Tx K w mg)  (cdv : Value) (A : Around) (outer : List Env) (s : Shared) (H : Hp) (E : XK) (hr : Room 0 (A.deeper (envOfC "_law_matrix" (defScope s__law_matrix) s.heap.objs.size f cdv))) :
    PSsd J (cxOf CX0 P w K mg base N__law_matrix "_law_matrix" (defScope s__law_matrix) f cdv A outer s H E).nox (defBody s__law_matrix) q__law_matrix :=
  (pssd_cons (psd_asg (pd_tup (pl_cons pd_int (pl_cons pd_int (pl_cons pd_int (pl_cons pd_int pl_nil)))) rfl) (pgd_tup rfl (pgds_cons (pgd_name (pg_name (i := 1) sc__law_matrix.nd rfl (.inl rfl))) (pgds_cons (pgd_name (pg_name (i := 2) sc__law_matrix.nd rfl (.inl rfl))) (pgds_cons (pgd_name (pg_name (i := 3) sc__law_matrix.nd rfl (.inl rfl))) (pgds_cons (pgd_name (pg_name (i := 4) sc__law_matrix.nd rfl (.inl rfl))) pgds_nil))))))
    (pssd_cons (psd_for PassesOwn.never rfl (pit_d (pd_var (pv 0))) (pgd_name (pg_name (i := 5) sc__law_matrix.nd rfl (.inl rfl))) (pssd_cons (psd_if (pb_cmpN (op_dEq hr.units) (nomark _) (pv 5) (pv_ofD pd_str)) (pssd_cons (psd_asg (pd_tup (pl_cons (pd_of (pr_bin op_dSub pd_int (pv_var (pv 3)))) (pl_cons (pd_of (pr_bin op_dSub pd_int (pv_var (pv 4)))) (pl_cons (pd_var (pv 1)) (pl_cons (pd_var (pv 2)) pl_nil)))) rfl) (pgd_tup rfl (pgds_cons (pgd_name (pg_name (i := 1) sc__law_matrix.nd rfl (.inl rfl))) (pgds_cons (pgd_name (pg_name (i := 2) sc__law_matrix.nd rfl (.inl rfl))) (pgds_cons (pgd_name (pg_name (i := 3) sc__law_matrix.nd rfl (.inl rfl))) (pgds_cons (pgd_name (pg_name (i := 4) sc__law_matrix.nd rfl (.inl rfl))) pgds_nil))))))
    pssd_nil) (pssd_cons (psd_if (pb_cmpN (op_dEq hr.units) (nomark _) (pv 5) (pv_ofD pd_str)) (pssd_cons (psd_asg (pd_tup (pl_cons (pd_of (pr_bin op_dSub pd_int (pv_var (pv 3)))) (pl_cons (pd_of (pr_bin op_dSub pd_int (pv_var (pv 4)))) (pl_cons (pd_of (pr_binN op_dAdd (pv 1) (pv_var (pv 3)))) (pl_cons (pd_of (pr_binN op_dAdd (pv 2) (pv_var (pv 4)))) pl_nil)))) rfl) (pgd_tup rfl (pgds_cons (pgd_name (pg_name (i := 1) sc__law_matrix.nd rfl (.inl rfl))) (pgds_cons (pgd_name (pg_name (i := 2) sc__law_matrix.nd rfl (.inl rfl))) (pgds_cons (pgd_name (pg_name (i := 3) sc__law_matrix.nd rfl (.inl rfl))) (pgds_cons (pgd_name (pg_name (i := 4) sc__law_matrix.nd rfl (.inl rfl))) pgds_nil))))))
    pssd_nil) (pssd_cons (psd_asg (pd_tup (pl_cons (pd_of (pr_bin op_dSub (pd_of (pr_bin op_dSub pd_int (pv_var (pv 1)))) (pv_var (pv 3)))) (pl_cons (pd_of (pr_bin op_dSub (pd_of (pr_bin op_dSub pd_int (pv_var (pv 2)))) (pv_var (pv 4)))) (pl_cons (pd_var (pv 1)) (pl_cons (pd_var (pv 2)) pl_nil)))) rfl) (pgd_tup rfl (pgds_cons (pgd_name (pg_name (i := 1) sc__law_matrix.nd rfl (.inl rfl))) (pgds_cons (pgd_name (pg_name (i := 2) sc__law_matrix.nd rfl (.inl rfl))) (pgds_cons (pgd_name (pg_name (i := 3) sc__law_matrix.nd rfl (.inl rfl))) (pgds_cons (pgd_name (pg_name (i := 4) sc__law_matrix.nd rfl (.inl rfl))) pgds_nil))))))
    pssd_nil))
    pssd_nil))
    pssd_nil))
    (pssd_cons (psd_ret (pr_of (pd_tup (pl_cons (pd_var (pv 1)) (pl_cons (pd_var (pv 2)) (pl_cons (pd_var (pv 3)) (pl_cons (pd_var (pv 4)) pl_nil)))) rfl)))
    pssd_nil)))
theorem ok__law_matrix {f : Addr} {fd : FuncData} (F : FnP K "_law_matrix" s__law_matrix f fd) (hx : mg "_law_matrix" = some (.ref f)) (T : Tx K w mg) (hj : J.jx = none)  : CalD P w K mg base J 1 "_law_matrix" s__law_matrix ["word"] pp__law_matrix :=
  defD_ok (qs := q__law_matrix) hj F hx sc__law_matrix (FunD.bindsN F fun _ _ _ _ _ _ us hl => match us, hl with | [_], _ => rfl) len__law_matrix (body__law_matrix T ) spec__law_matrix
abbrev N__law_order : List Str := ["matrix", "a", "b", "c", "d"]
theorem sc__law_order : FnScope N__law_order ["matrix"] (defScope s__law_order) := ⟨rfl, rfl, rfl, by decide +kernel, rfl, by decide +kernel, by decide +kernel⟩
theorem body__law_order {f : Addr} (T : Tx K w mg)  (cdv : Value) (A : Around) (outer : List Env) (s : Shared) (H : Hp) (E : XK) (hr : Room 0 (A.deeper (envOfC "_law_order" (defScope s__law_order) s.heap.objs.size f cdv))) :
    PSsd J (cxOf CX0 P w K mg base N__law_order "_law_order" (defScope s__law_order) f cdv A outer s H E).nox (defBody s__law_order) q__law_order :=
  (pssd_cons (psd_asg (pd_var (pv 0)) (pgd_tup rfl (pgds_cons (pgd_name (pg_name (i := 1) sc__law_order.nd rfl (.inl rfl))) (pgds_cons (pgd_name (pg_name (i := 2) sc__law_order.nd rfl (.inl rfl))) (pgds_cons (pgd_name (pg_name (i := 3) sc__law_order.nd rfl (.inl rfl))) (pgds_cons (pgd_name (pg_name (i := 4) sc__law_order.nd rfl (.inl rfl))) pgds_nil))))))
    (pssd_cons (psd_if (pb_w (pwd_and (pb_cmpN (op_dEq hr.units) (nomark _) (pv 2) (pv_ofD pd_int)) (pwd_and1 (pb_cmpN (op_dEq hr.units) (nomark _) (pv 3) (pv_ofD pd_int))))) (pssd_cons (psd_ret (pr_of pd_int))
    pssd_nil) pssd_nil)
    (pssd_cons (psd_ret (pr_cget2 (t := ([(.inl 0, .int 2), (.inl 1, .int 3)] : Kd)) (x := .none) hr.units (pps_cons pe_int pe_int (pps_cons pe_int pe_int pps_nil)) (by rfl) rfl (pd_of (pr_callB cl_abs (by rfl) T.m_abs (by decide +kernel) (plv_one (pv_of (pr_binN op_dAdd (pv 1) (pv_var (pv 4))))))) pe_non ⟨by rfl, by rfl, by rfl, by rfl⟩))
    pssd_nil)))
theorem ok__law_order {f : Addr} {fd : FuncData} (F : FnP K "_law_order" s__law_order f fd) (hx : mg "_law_order" = some (.ref f)) (T : Tx K w mg) (hj : J.jx = none)  : CalD P w K mg base J 1 "_law_order" s__law_order ["matrix"] pp__law_order :=
  defD_ok (qs := q__law_order) hj F hx sc__law_order (FunD.bindsN F fun _ _ _ _ _ _ us hl => match us, hl with | [_], _ => rfl) len__law_order (body__law_order T ) spec__law_order
abbrev N__law_kept : List Str := ["matrix", "a", "b", "c", "d", "sign", "p", "q", "one", "other", "lap"]
theorem sc__law_kept : FnScope N__law_kept ["matrix"] (defScope s__law_kept) := ⟨rfl, rfl, rfl, by decide +kernel, rfl, by decide +kernel, by decide +kernel⟩
theorem body__law_kept {f : Addr} (T : Tx K w mg)  (cdv : Value) (A : Around) (outer : List Env) (s : Shared) (H : Hp) (E : XK) (hr : Room 0 (A.deeper (envOfC "_law_kept" (defScope s__law_kept) s.heap.objs.size f cdv))) :
    PSsd J (cxOf CX0 P w K mg base N__law_kept "_law_kept" (defScope s__law_kept) f cdv A outer s H E).nox (defBody s__law_kept) (qSeq (qAsg (qVar 0) (qgTup 4 (qgCons (qgName 1) (qgCons (qgName 2) (qgCons (qgName 3) (qgCons (qgName 4) qgNil))))))
    (qSeq (qIfS (qTst (qBin dNe (qDR (qCl cAbs (qCons (qDR (qBinM dAdd 1 (qLook 4))) qNil))) (qC (.int 2)))) (qSeq (qRet (qRD (qC .none)))
    qNext) qNext)
    (qSeq (qSet 5 (qIf (qTst (qBin dGt (qDR (qBinM dAdd 1 (qLook 4))) (qC (.int 0)))) (qRD (qC (.int 1))) (qRD (qNeg (qC (.int 1))))))
    (qSeq (qPar 6 7 (qCons (qVar 2) (qCons (qDR (qBinM dSub 5 (qLook 1))) qNil)))
    (qSeq (qIfS (qAnd (qTst (qBinM dEq 6 (qC (.int 0)))) (qTst (qBinM dEq 7 (qC (.int 0))))) (qSeq (qPar 6 7 (qCons (qDR (qBinM dSub 5 (qLook 4))) (qCons (qVar 3) qNil)))
    qNext) qNext)
    (qSeq (qPar 8 9 (qCons (qDR (qCl cAbs (qCons (qLook 6) qNil))) (qCons (qDR (qCl cAbs (qCons (qLook 7) qNil))) qNil)))
    (qSeq (qFor (qRng1 (qCons (qC (.int 2000)) qNil)) (qgName 10) (qSeq (qIfS (qTst (qBinM dEq 9 (qC (.int 0)))) (qSeq qBrk
    qNext) qNext)
    (qSeq (qPar 8 9 (qCons (qVar 9) (qCons (qDR (qBin dMod (qDR (qCl cInt (qCons (qLook 8) qNil))) (qLook 9))) qNil)))
    qNext)))
    (qSeq (qPar 6 7 (qCons (qDR (qBinM dFdiv 6 (qLook 8))) (qCons (qDR (qBinM dFdiv 7 (qLook 8))) qNil)))
    (qSeq (qIfS (qOr (qTst (qBinM dLt 7 (qC (.int 0)))) (qAnd (qTst (qBinM dEq 7 (qC (.int 0)))) (qTst (qBinM dLt 6 (qC (.int 0)))))) (qSeq (qPar 6 7 (qCons (qDR (qBin dSub (qC (.int 0)) (qLook 6))) (qCons (qDR (qBin dSub (qC (.int 0)) (qLook 7))) qNil)))
    qNext) qNext)
    (qSeq (qRet (qRD (qTup (qCons (qVar 6) (qCons (qVar 7) qNil)))))
    qNext)))))))))) :=
  (pssd_cons (psd_asg (pd_var (pv 0)) (pgd_tup rfl (pgds_cons (pgd_name (pg_name (i := 1) sc__law_kept.nd rfl (.inl rfl))) (pgds_cons (pgd_name (pg_name (i := 2) sc__law_kept.nd rfl (.inl rfl))) (pgds_cons (pgd_name (pg_name (i := 3) sc__law_kept.nd rfl (.inl rfl))) (pgds_cons (pgd_name (pg_name (i := 4) sc__law_kept.nd rfl (.inl rfl))) pgds_nil))))))
    (pssd_cons (psd_if (pb_cmp (op_dNe hr.units) (nomark _) (pd_of (pr_callB cl_abs (by rfl) T.m_abs (by decide +kernel) (plv_one (pv_of (pr_binN op_dAdd (pv 1) (pv_var (pv 4))))))) (pv_ofD pd_int)) (pssd_cons (psd_ret (pr_of pd_non))
    pssd_nil) pssd_nil)
    (pssd_cons (psd_set (i := 5) sc__law_kept.nd rfl (.inl rfl) (pr_if (pb_cmp op_dGt (nomark _) (pd_of (pr_binN op_dAdd (pv 1) (pv_var (pv 4)))) (pv_ofD pd_int)) (pr_of pd_int) (pr_of (pd_neg pd_int))))
    (pssd_cons (psd_par (i := 6) (j := 7) rfl sc__law_kept.nd rfl rfl (by decide) rfl rfl (pl_cons (pd_var (pv 2)) (pl_cons (pd_of (pr_binN op_dSub (pv 5) (pv_var (pv 1)))) pl_nil)) (by rfl))
    (pssd_cons (psd_if (pb_w (pwd_and (pb_cmpN (op_dEq hr.units) (nomark _) (pv 6) (pv_ofD pd_int)) (pwd_and1 (pb_cmpN (op_dEq hr.units) (nomark _) (pv 7) (pv_ofD pd_int))))) (pssd_cons (psd_par (i := 6) (j := 7) rfl sc__law_kept.nd rfl rfl (by decide) rfl rfl (pl_cons (pd_of (pr_binN op_dSub (pv 5) (pv_var (pv 4)))) (pl_cons (pd_var (pv 3)) pl_nil)) (by rfl))
    pssd_nil) pssd_nil)
    (pssd_cons (psd_par (i := 8) (j := 9) rfl sc__law_kept.nd rfl rfl (by decide) rfl rfl (pl_cons (pd_of (pr_callB cl_abs (by rfl) T.m_abs (by decide +kernel) (plv_one (pv_var (pv 6))))) (pl_cons (pd_of (pr_callB cl_abs (by rfl) T.m_abs (by decide +kernel) (plv_one (pv_var (pv 7))))) pl_nil)) (by rfl))
    (pssd_cons (psd_for PassesOwn.never rfl (pit_r1 (by rfl) T.m_range (pl_cons pd_int pl_nil)) (pgd_name (pg_name (i := 10) sc__law_kept.nd rfl (.inl rfl))) (pssd_cons (psd_if (pb_cmpN (op_dEq hr.units) (nomark _) (pv 9) (pv_ofD pd_int)) (pssd_cons psd_brk
    pssd_nil) pssd_nil)
    (pssd_cons (psd_par (i := 8) (j := 9) rfl sc__law_kept.nd rfl rfl (by decide) rfl rfl (pl_cons (pd_var (pv 9)) (pl_cons (pd_of (pr_bin op_dMod (pd_of (pr_callTy cl_int (by rfl) T.m_int (by decide +kernel) (plv_one (pv_var (pv 8))))) (pv_var (pv 9)))) pl_nil)) (by rfl))
    pssd_nil)))
    (pssd_cons (psd_par (i := 6) (j := 7) rfl sc__law_kept.nd rfl rfl (by decide) rfl rfl (pl_cons (pd_of (pr_binN op_dFdiv (pv 6) (pv_var (pv 8)))) (pl_cons (pd_of (pr_binN op_dFdiv (pv 7) (pv_var (pv 8)))) pl_nil)) (by rfl))
    (pssd_cons (psd_if (pb_w (pwd_or (pb_cmpN op_dLt (nomark _) (pv 7) (pv_ofD pd_int)) (pwd_or1 (pb_w (pwd_and (pb_cmpN (op_dEq hr.units) (nomark _) (pv 7) (pv_ofD pd_int)) (pwd_and1 (pb_cmpN op_dLt (nomark _) (pv 6) (pv_ofD pd_int)))))))) (pssd_cons (psd_par (i := 6) (j := 7) rfl sc__law_kept.nd rfl rfl (by decide) rfl rfl (pl_cons (pd_of (pr_bin op_dSub pd_int (pv_var (pv 6)))) (pl_cons (pd_of (pr_bin op_dSub pd_int (pv_var (pv 7)))) pl_nil)) (by rfl))
    pssd_nil) pssd_nil)
    (pssd_cons (psd_ret (pr_of (pd_tup (pl_cons (pd_var (pv 6)) (pl_cons (pd_var (pv 7)) pl_nil)) rfl)))
    pssd_nil))))))))))
theorem ok__law_kept {f : Addr} {fd : FuncData} (F : FnP K "_law_kept" s__law_kept f fd) (hx : mg "_law_kept" = some (.ref f)) (T : Tx K w mg) (hj : J.jx = none)  : CalD P w K mg base J 1 "_law_kept" s__law_kept ["matrix"] pp__law_kept :=
  defD_ok (qs := q__law_kept) hj F hx sc__law_kept (FunD.bindsN F fun _ _ _ _ _ _ us hl => match us, hl with | [_], _ => rfl) len__law_kept (body__law_kept T ) spec__law_kept
abbrev N__law_asked : List Str := ["word", "named", "matrix", "order"]
theorem sc__law_asked : FnScope N__law_asked ["word", "named"] (defScope s__law_asked) := ⟨rfl, rfl, rfl, by decide +kernel, rfl, by decide +kernel, by decide +kernel⟩
theorem body__law_asked {f : Addr} (T : Tx K w mg) (c__law_matrix : CalD P w K mg base J 1 "_law_matrix" s__law_matrix ["word"] pp__law_matrix) (c__law_order : CalD P w K mg base J 1 "_law_order" s__law_order ["matrix"] pp__law_order) (c__law_same : CalD P w K mg base J 3 "_law_same" s__law_same ["told", "due"] pp__law_same) (c__law_kept : CalD P w K mg base J 1 "_law_kept" s__law_kept ["matrix"] pp__law_kept) (c_turn_order : CalD P w K mg base J 2 "turn_order" s_turn_order ["word"] pp_turn_order) (c_held_tangle : CalD P w K mg base J 2 "held_tangle" s_held_tangle ["word"] pp_held_tangle) (cdv : Value) (A : Around) (outer : List Env) (s : Shared) (H : Hp) (E : XK) (hr : Room 3 (A.deeper (envOfC "_law_asked" (defScope s__law_asked) s.heap.objs.size f cdv))) :
    PSsd J (cxOf CX0 P w K mg base N__law_asked "_law_asked" (defScope s__law_asked) f cdv A outer s H E).nox (defBody s__law_asked) (qSeq (qSet 2 (qCall pp__law_matrix (qaN 0 qaNil)))
    (qSeq (qSet 3 (qCall pp__law_order (qaN 2 qaNil)))
    (qSeq (qIfS (qNot (qTru (qDR (qCall pp__law_same (qaD (qDR (qIf (qTru (qVar 1)) (qCall pp_turn_order (qReord [0] 1 (qaN 0 qaNil))) (qCall pp_turn_order (qaN 0 qaNil)))) (qaN 3 qaNil)))))) (qSeq (qRet (qRD (qC (.bool false))))
    qNext) qNext)
    (qSeq (qRet (qRD (qOrV (qDR (qBinM dEq 3 (qC (.int 1)))) (qDR (qCall pp__law_same (qaD (qDR (qIf (qTru (qVar 1)) (qCall pp_held_tangle (qReord [0] 1 (qaN 0 qaNil))) (qCall pp_held_tangle (qaN 0 qaNil)))) (qaD (qDR (qCall pp__law_kept (qaN 2 qaNil))) qaNil)))))))
    qNext)))) :=
  (pssd_cons (psd_set (i := 2) sc__law_asked.nd rfl (.inl rfl) (pr_callC c__law_matrix hr (by decide) (by rfl) (paa_n (pv 0) paa_nil)))
    (pssd_cons (psd_set (i := 3) sc__law_asked.nd rfl (.inl rfl) (pr_callC c__law_order hr (by decide) (by rfl) (paa_n (pv 2) paa_nil)))
    (pssd_cons (psd_if (pb_not (pb_tru (pd_of (pr_callC c__law_same hr (by decide) (by rfl) (paa_d (pd_of (pr_if (pb_tru (pd_var (pv 1)) (by intro _; rfl)) (pr_callKC (ks := ["word"]) (idx := [0]) c_turn_order hr (by decide) (by rfl) (fun fd f G => kw_turn_order_word G) (pka_n (pv 0) pka_nil) (by decide) rfl) (pr_callC c_turn_order hr (by decide) (by rfl) (paa_n (pv 0) paa_nil)))) (paa_n (pv 3) paa_nil)))) (by intro _; rfl))) (pssd_cons (psd_ret (pr_of pd_bl))
    pssd_nil) pssd_nil)
    (pssd_cons (psd_ret (pr_of (pd_or (pd_of (pr_cmpN (op_dEq hr.units) (nomark _) (pv 3) (pv_ofD pd_int))) (pd_one (pd_of (pr_callC c__law_same hr (by decide) (by rfl) (paa_d (pd_of (pr_if (pb_tru (pd_var (pv 1)) (by intro _; rfl)) (pr_callKC (ks := ["word"]) (idx := [0]) c_held_tangle hr (by decide) (by rfl) (fun fd f G => kw_held_tangle_word G) (pka_n (pv 0) pka_nil) (by decide) rfl) (pr_callC c_held_tangle hr (by decide) (by rfl) (paa_n (pv 0) paa_nil)))) (paa_d (pd_of (pr_callC c__law_kept hr (by decide) (by rfl) (paa_n (pv 2) paa_nil))) paa_nil))))))))
    pssd_nil))))
theorem ok__law_asked {f : Addr} {fd : FuncData} (F : FnP K "_law_asked" s__law_asked f fd) (hx : mg "_law_asked" = some (.ref f)) (T : Tx K w mg) (hj : J.jx = none) (c__law_matrix : CalD P w K mg base J 1 "_law_matrix" s__law_matrix ["word"] pp__law_matrix) (c__law_order : CalD P w K mg base J 1 "_law_order" s__law_order ["matrix"] pp__law_order) (c__law_same : CalD P w K mg base J 3 "_law_same" s__law_same ["told", "due"] pp__law_same) (c__law_kept : CalD P w K mg base J 1 "_law_kept" s__law_kept ["matrix"] pp__law_kept) (c_turn_order : CalD P w K mg base J 2 "turn_order" s_turn_order ["word"] pp_turn_order) (c_held_tangle : CalD P w K mg base J 2 "held_tangle" s_held_tangle ["word"] pp_held_tangle) : CalD P w K mg base J 4 "_law_asked" s__law_asked ["word", "named"] pp__law_asked :=
  defD_ok (qs := q__law_asked) hj F hx sc__law_asked (FunD.bindsN F fun _ _ _ _ _ _ us hl => match us, hl with | [_, _], _ => rfl) len__law_asked (body__law_asked T c__law_matrix c__law_order c__law_same c__law_kept c_turn_order c_held_tangle) spec__law_asked
abbrev N_law : List Str := ["script", "jar", "words", "begin", "at", "word", "told"]
theorem sc_law : FnScope N_law ["script"] (defScope s_law) := ⟨rfl, rfl, rfl, by decide +kernel, rfl, by decide +kernel, by decide +kernel⟩
theorem body_law {f : Addr} (T : Tx K w mg) (c__law_jar : CalM P w K mg base 1 "_law_jar" s__law_jar ["script"] pp__law_jar) (c__law_words : CalD P w K mg base (jarN K good) 3 "_law_words" s__law_words ["jar"] pp__law_words) (c__law_draw : CalD P w K mg base (jarN K good) 1 "_law_draw" s__law_draw ["jar", "many", "place"] pp__law_draw) (c_turn_order : CalD P w K mg base (jarN K good) 2 "turn_order" s_turn_order ["word"] pp_turn_order) (c_held_tangle : CalD P w K mg base (jarN K good) 2 "held_tangle" s_held_tangle ["word"] pp_held_tangle) (c__law_same : CalD P w K mg base (jarN K good) 3 "_law_same" s__law_same ["told", "due"] pp__law_same) (c__law_asked : CalD P w K mg base (jarN K good) 4 "_law_asked" s__law_asked ["word", "named"] pp__law_asked) (c__law_back : CalD P w K mg base (jarN K good) 1 "_law_back" s__law_back ["word"] pp__law_back) (cdv : Value) (A : Around) (outer : List Env) (s : Shared) (H : Hp) (E : XK) (hr : Room 4 (A.deeper (envOfC "law" (defScope s_law) s.heap.objs.size f cdv))) :
    PSs (cxOf CX0 P w K mg base N_law "law" (defScope s_law) f cdv A outer s H E).nox (defBody s_law) (tLw K (jarN K good) (qMake 1 good pp__law_jar (qaN 0 qaNil)
    (qSeq (qSet 2 (qCall pp__law_words (qaN 1 qaNil)))
    (qSeq (qSet 3 (qCall pp__law_draw (qaN 1 (qaD (qDR (qCl cLen (qCons (qLook 2) qNil))) (qaD (qC (.int 15)) qaNil)))))
    (qSeq (qFor (qRng1 (qCons (qDR (qCl cLen (qCons (qLook 2) qNil))) qNil)) (qgName 4) (qSeq (qSet 5 (qBinM dIx 2 (qDR (qBin dMod (qDR (qCl cInt (qCons (qDR (qBinM dAdd 3 (qLook 4))) qNil))) (qDR (qCl cLen (qCons (qLook 2) qNil)))))))
    (qSeq (qIfS (qOr (qNot (qTru (qDR (qCall pp__law_asked (qaN 5 (qaD (qDR (qBinM dEq 4 (qC (.int 1)))) qaNil)))))) (qNot (qTru (qDR (qCall pp__law_asked (qaD (qDR (qCall pp__law_back (qaN 5 qaNil))) (qaD (qDR (qBinM dEq 4 (qC (.int 2)))) qaNil))))))) (qSeq (qRet (qRD (qC (.bool false))))
    qNext) qNext)
    (qSeq (qIfS (qAnd (qTst (qBin dLe (qDR (qCl cLen (qCons (qLook 5) qNil))) (qC (.int 100)))) (qNot (qTru (qDR (qCall pp__law_asked (qaD (qDR (qBinM dAdd 5 (qLook 5))) (qaD (qC (.bool false)) qaNil))))))) (qSeq (qRet (qRD (qC (.bool false))))
    qNext) qNext)
    qNext))))
    (qSeq (qFor (qItD (qTup (qCons (qC (.str "")) (qCons (qC (.str "s")) (qCons (qC (.str "v")) (qCons (qC (.str "w")) (qCons (qC (.str "ss")) (qCons (qC (.str "www")) (qCons (qC (.str "ws")) (qCons (qC (.str "sv")) (qCons (qC (.str "sw")) (qCons (qC (.str "vs")) (qCons (qC (.str "wsws")) (qCons (qC (.str "swsv")) (qCons (qC (.str "vsw")) (qCons (qC (.str "wsvs")) qNil)))))))))))))))) (qgName 5) (qSeq (qIfS (qNot (qTru (qDR (qCall pp__law_asked (qaN 5 (qaD (qC (.bool false)) qaNil)))))) (qSeq (qRet (qRD (qC (.bool false))))
    qNext) qNext)
    qNext))
    (qSeq (qSet 6 (qRD (qTup (qCons (qDR (qCall pp_turn_order (qaD (qC (.str "sw")) qaNil))) (qCons (qDR (qCall pp_turn_order (qaD (qC (.str "vsw")) qaNil))) (qCons (qDR (qCall pp_held_tangle (qaD (qC (.str "sw")) qaNil))) (qCons (qDR (qCall pp_held_tangle (qaD (qC (.str "wsws")) qaNil))) (qCons (qDR (qCall pp_held_tangle (qaD (qC (.str "wsvs")) qaNil))) (qCons (qDR (qCall pp_held_tangle (qaD (qC (.str "s")) qaNil))) qNil)))))))))
    (qSeq (qRet (qRD (qAndV (qDR (qCall pp__law_same (qaN 6 (qaD (qTup (qCons (qC .none) (qCons (qC (.int 2)) (qCons (qTup (qCons (qC (.int 0)) (qCons (qC (.int 1)) qNil))) (qCons (qTup (qCons (qC (.int 1)) (qCons (qC (.int 0)) qNil))) (qCons (qC .none) (qCons (qC .none) qNil))))))) qaNil)))) (qDR (qCall pp__law_asked (qaD (qDR (qBinM dIx 2 (qLook 3))) (qaD (qC (.bool true)) qaNil)))))))
    qNext)))))))) :=
  (law_make (good := good) (i := 1) c__law_jar hr (by decide) (by rfl) sc_law.nd rfl (.inl rfl) (paa_n (pv 0) paa_nil)
    (pssd_cons (psd_set (i := 2) sc_law.nd rfl (.inl rfl) (pr_callC c__law_words hr (by decide) (by rfl) (paa_n (pv 1) paa_nil)))
    (pssd_cons (psd_set (i := 3) sc_law.nd rfl (.inl rfl) (pr_callC c__law_draw hr (by decide) (by rfl) (paa_n (pv 1) (paa_d (pd_of (pr_callB cl_len (by rfl) T.m_len (by decide +kernel) (plv_one (pv_var (pv 2))))) (paa_d pd_int paa_nil)))))
    (pssd_cons (psd_for PassesOwn.never rfl (pit_r1 (by rfl) T.m_range (pl_cons (pd_of (pr_callB cl_len (by rfl) T.m_len (by decide +kernel) (plv_one (pv_var (pv 2))))) pl_nil)) (pgd_name (pg_name (i := 4) sc_law.nd rfl (.inl rfl))) (pssd_cons (psd_set (i := 5) sc_law.nd rfl (.inl rfl) (pr_ixN (pv 2) (pv_of (pr_bin op_dMod (pd_of (pr_callTy cl_int (by rfl) T.m_int (by decide +kernel) (plv_one (pv_of (pr_binN op_dAdd (pv 3) (pv_var (pv 4))))))) (pv_of (pr_callB cl_len (by rfl) T.m_len (by decide +kernel) (plv_one (pv_var (pv 2))))))) (fun _ _ => rfl)))
    (pssd_cons (psd_if (pb_w (pwd_or (pb_not (pb_tru (pd_of (pr_callC c__law_asked hr (by decide) (by rfl) (paa_n (pv 5) (paa_d (pd_of (pr_cmpN (op_dEq hr.units) (nomark _) (pv 4) (pv_ofD pd_int))) paa_nil)))) (by intro _; rfl))) (pwd_or1 (pb_not (pb_tru (pd_of (pr_callC c__law_asked hr (by decide) (by rfl) (paa_d (pd_of (pr_callC c__law_back hr (by decide) (by rfl) (paa_n (pv 5) paa_nil))) (paa_d (pd_of (pr_cmpN (op_dEq hr.units) (nomark _) (pv 4) (pv_ofD pd_int))) paa_nil)))) (by intro _; rfl)))))) (pssd_cons (psd_ret (pr_of pd_bl))
    pssd_nil) pssd_nil)
    (pssd_cons (psd_if (pb_w (pwd_and (pb_cmp op_dLe (nomark _) (pd_of (pr_callB cl_len (by rfl) T.m_len (by decide +kernel) (plv_one (pv_var (pv 5))))) (pv_ofD pd_int)) (pwd_and1 (pb_not (pb_tru (pd_of (pr_callC c__law_asked hr (by decide) (by rfl) (paa_d (pd_of (pr_binN op_dAdd (pv 5) (pv_var (pv 5)))) (paa_d pd_bl paa_nil)))) (by intro _; rfl)))))) (pssd_cons (psd_ret (pr_of pd_bl))
    pssd_nil) pssd_nil)
    pssd_nil))))
    (pssd_cons (psd_for PassesOwn.never rfl (pit_d (pd_tup (pl_cons pd_str (pl_cons pd_str (pl_cons pd_str (pl_cons pd_str (pl_cons pd_str (pl_cons pd_str (pl_cons pd_str (pl_cons pd_str (pl_cons pd_str (pl_cons pd_str (pl_cons pd_str (pl_cons pd_str (pl_cons pd_str (pl_cons pd_str pl_nil)))))))))))))) rfl)) (pgd_name (pg_name (i := 5) sc_law.nd rfl (.inl rfl))) (pssd_cons (psd_if (pb_not (pb_tru (pd_of (pr_callC c__law_asked hr (by decide) (by rfl) (paa_n (pv 5) (paa_d pd_bl paa_nil)))) (by intro _; rfl))) (pssd_cons (psd_ret (pr_of pd_bl))
    pssd_nil) pssd_nil)
    pssd_nil))
    (pssd_cons (psd_set (i := 6) sc_law.nd rfl (.inl rfl) (pr_of (pd_tup (pl_cons (pd_of (pr_callC c_turn_order hr (by decide) (by rfl) (paa_d pd_str paa_nil))) (pl_cons (pd_of (pr_callC c_turn_order hr (by decide) (by rfl) (paa_d pd_str paa_nil))) (pl_cons (pd_of (pr_callC c_held_tangle hr (by decide) (by rfl) (paa_d pd_str paa_nil))) (pl_cons (pd_of (pr_callC c_held_tangle hr (by decide) (by rfl) (paa_d pd_str paa_nil))) (pl_cons (pd_of (pr_callC c_held_tangle hr (by decide) (by rfl) (paa_d pd_str paa_nil))) (pl_cons (pd_of (pr_callC c_held_tangle hr (by decide) (by rfl) (paa_d pd_str paa_nil))) pl_nil)))))) rfl)))
    (pssd_cons (psd_ret (pr_of (pd_and (pd_of (pr_callC c__law_same hr (by decide) (by rfl) (paa_n (pv 6) (paa_d (pd_tup (pl_cons pd_non (pl_cons pd_int (pl_cons (pd_tup (pl_cons pd_int (pl_cons pd_int pl_nil)) rfl) (pl_cons (pd_tup (pl_cons pd_int (pl_cons pd_int pl_nil)) rfl) (pl_cons pd_non (pl_cons pd_non pl_nil)))))) rfl) paa_nil)))) (pd_one (pd_of (pr_callC c__law_asked hr (by decide) (by rfl) (paa_d (pd_of (pr_ixN (pv 2) (pv_var (pv 3)) (fun _ _ => rfl))) (paa_d pd_bl paa_nil))))))))
    pssd_nil)))))))
theorem ok_law {f : Addr} {fd : FuncData} (F : FnP K "law" s_law f fd) (T : Tx K w mg) (c__law_jar : CalM P w K mg base 1 "_law_jar" s__law_jar ["script"] pp__law_jar) (c__law_words : CalD P w K mg base (jarN K good) 3 "_law_words" s__law_words ["jar"] pp__law_words) (c__law_draw : CalD P w K mg base (jarN K good) 1 "_law_draw" s__law_draw ["jar", "many", "place"] pp__law_draw) (c_turn_order : CalD P w K mg base (jarN K good) 2 "turn_order" s_turn_order ["word"] pp_turn_order) (c_held_tangle : CalD P w K mg base (jarN K good) 2 "held_tangle" s_held_tangle ["word"] pp_held_tangle) (c__law_same : CalD P w K mg base (jarN K good) 3 "_law_same" s__law_same ["told", "due"] pp__law_same) (c__law_asked : CalD P w K mg base (jarN K good) 4 "_law_asked" s__law_asked ["word", "named"] pp__law_asked) (c__law_back : CalD P w K mg base (jarN K good) 1 "_law_back" s__law_back ["word"] pp__law_back) : FnOk P w K mg base CX0 5 f fd ["script"] (spLaw K) :=
  lawD_ok (qs := q_law) F sc_law rfl (body_law T c__law_jar c__law_words c__law_draw c_turn_order c_held_tangle c__law_same c__law_asked c__law_back) spec_law
end
def d__law_jar : He.DefD := ⟨("_law_jar", none), "_law_jar", "_law_jar", defArgs s__law_jar, defBody s__law_jar, defScope s__law_jar, [], []⟩
def d__law_draw : He.DefD := ⟨("_law_draw", none), "_law_draw", "_law_draw", defArgs s__law_draw, defBody s__law_draw, defScope s__law_draw, [], []⟩
def d__law_plain : He.DefD := ⟨("_law_plain", none), "_law_plain", "_law_plain", defArgs s__law_plain, defBody s__law_plain, defScope s__law_plain, [], []⟩
def d__law_letters : He.DefD := ⟨("_law_letters", none), "_law_letters", "_law_letters", defArgs s__law_letters, defBody s__law_letters, defScope s__law_letters, [], []⟩
def d__law_puffed : He.DefD := ⟨("_law_puffed", none), "_law_puffed", "_law_puffed", defArgs s__law_puffed, defBody s__law_puffed, defScope s__law_puffed, [], []⟩
def d__law_back : He.DefD := ⟨("_law_back", none), "_law_back", "_law_back", defArgs s__law_back, defBody s__law_back, defScope s__law_back, [], []⟩
def d__law_words : He.DefD := ⟨("_law_words", none), "_law_words", "_law_words", defArgs s__law_words, defBody s__law_words, defScope s__law_words, [], []⟩
def d_reduced : He.DefD := ⟨("reduced", none), "reduced", "reduced", defArgs s_reduced, defBody s_reduced, defScope s_reduced, [], []⟩
def d_turn_order : He.DefD := ⟨("turn_order", none), "turn_order", "turn_order", defArgs s_turn_order, defBody s_turn_order, defScope s_turn_order, [], []⟩
def d_behind : He.DefD := ⟨("behind", none), "behind", "behind", defArgs s_behind, defBody s_behind, defScope s_behind, [], []⟩
def d_lowest : He.DefD := ⟨("lowest", none), "lowest", "lowest", defArgs s_lowest, defBody s_lowest, defScope s_lowest, [], []⟩
def d_held_tangle : He.DefD := ⟨("held_tangle", none), "held_tangle", "held_tangle", defArgs s_held_tangle, defBody s_held_tangle, defScope s_held_tangle, [], []⟩
def d__law_same : He.DefD := ⟨("_law_same", none), "_law_same", "_law_same", defArgs s__law_same, defBody s__law_same, defScope s__law_same, [], []⟩
def d__law_matrix : He.DefD := ⟨("_law_matrix", none), "_law_matrix", "_law_matrix", defArgs s__law_matrix, defBody s__law_matrix, defScope s__law_matrix, [], []⟩
def d__law_order : He.DefD := ⟨("_law_order", none), "_law_order", "_law_order", defArgs s__law_order, defBody s__law_order, defScope s__law_order, [], []⟩
def d__law_kept : He.DefD := ⟨("_law_kept", none), "_law_kept", "_law_kept", defArgs s__law_kept, defBody s__law_kept, defScope s__law_kept, [], []⟩
def d__law_asked : He.DefD := ⟨("_law_asked", none), "_law_asked", "_law_asked", defArgs s__law_asked, defBody s__law_asked, defScope s__law_asked, [], []⟩
def d_law : He.DefD := ⟨("law", none), "law", "law", defArgs s_law, defBody s_law, defScope s_law, [], []⟩
def fn : List He.DefD := [d__law_jar, d__law_draw, d__law_plain, d__law_letters, d__law_puffed, d__law_back, d__law_words, d_reduced, d_turn_order, d_behind, d_lowest, d_held_tangle, d__law_same, d__law_matrix, d__law_order, d__law_kept, d__law_asked, d_law]
def fa : List He.Fa := [.glo "_law_jar", .glo "_law_draw", .glo "_law_plain", .glo "_law_letters", .glo "_law_puffed", .glo "_law_back", .glo "_law_words", .glo "reduced", .glo "turn_order", .glo "behind", .glo "lowest", .glo "held_tangle", .glo "_law_same", .glo "_law_matrix", .glo "_law_order", .glo "_law_kept", .glo "_law_asked", .glo "law", .glo "PRODUCTS", .glo "ROWS", .free "abs", .free "bool", .free "int", .free "isinstance", .free "len", .free "range", .free "tuple"]
def ks_PRODUCTS : List Str := ["ss", "vw", "wv", "vv", "ww"]
def ks_ROWS : List Str := ["s", "w", "v"]
def ex (K : PySem.W.Frag) : Bool := true && (tabB K (He.ga K "PRODUCTS") tb_PRODUCTS) && (tabB K (He.ga K "ROWS") tb_ROWS) && (bfB K "gcd" "math.gcd")
theorem exB_PRODUCTS {K : PySem.W.Frag} (h : ex K = true) : (tabB K (He.ga K "PRODUCTS") tb_PRODUCTS) = true := (Bool.and_eq_true_iff.mp (Bool.and_eq_true_iff.mp (Bool.and_eq_true_iff.mp h).1).1).2
theorem exB_ROWS {K : PySem.W.Frag} (h : ex K = true) : (tabB K (He.ga K "ROWS") tb_ROWS) = true := (Bool.and_eq_true_iff.mp (Bool.and_eq_true_iff.mp h).1).2
theorem exB_gcd {K : PySem.W.Frag} (h : ex K = true) : (bfB K "gcd" "math.gcd") = true := (Bool.and_eq_true_iff.mp h).2
def ts : List He.Tab := [(fun K => He.ga K "PRODUCTS", ks_PRODUCTS), (fun K => He.ga K "ROWS", ks_ROWS)]

abbrev R : PySem.W.OpenRow := PySem.W.OpenLaw.row PySem.Challenge.rw_calledloose_k03_turns
abbrev hk : PySem.W.Hook := He.hookX 4 fa fn ts [] ex
def ob (s : PySem.W.SharedT) : He.AlX := He.obsX 4 fa fn ts [] ex (HandSHeadRun.getT s)
theorem ob_eq (s : PySem.W.SharedT) : ob s = hk.obs s.abs := He.obsX_eq (HandSHeadRun.getT_eq s)
/-- the world with one of its habits told -/
def mkW (w : World) (b : Bool) : World := { w with params := { w.params with followText := fun s => if s = "special-get-raises" then b else w.params.followText s } }
theorem mkW_eq (w : World) : w = mkW w (w.params.followText "special-get-raises") := by
  have e : (fun s => if s = "special-get-raises" then w.params.followText "special-get-raises" else w.params.followText s) = w.params.followText := by
    funext s
    by_cases h : s = "special-get-raises"
    · rw [if_pos h, h]
    · rw [if_neg h]
  unfold mkW
  rw [e]
theorem runT (w : World) : HandSHeadRun.RunEqI R (PySem.W.view R.prog [0, 23]) hk ob 2000 ["PRODUCTS", "reduced", "ROWS", "turn_order", "behind", "lowest", "held_tangle", "_law_jar", "_law_draw", "_law_back", "_law_letters", "_law_plain", "_law_puffed", "_law_matrix", "_law_order", "_law_kept", "_law_same", "_law_asked", "_law_words"] (mkW w true) := by
  unfold HandSHeadRun.RunEqI
  kernel_rfl
theorem runF (w : World) : HandSHeadRun.RunEqI R (PySem.W.view R.prog [0, 23]) hk ob 2000 ["PRODUCTS", "reduced", "ROWS", "turn_order", "behind", "lowest", "held_tangle", "_law_jar", "_law_draw", "_law_back", "_law_letters", "_law_plain", "_law_puffed", "_law_matrix", "_law_order", "_law_kept", "_law_same", "_law_asked", "_law_words"] (mkW w false) := by
  unfold HandSHeadRun.RunEqI
  kernel_rfl
theorem run (w : World) : HandSHeadRun.RunEqI R (PySem.W.view R.prog [0, 23]) hk ob 2000 ["PRODUCTS", "reduced", "ROWS", "turn_order", "behind", "lowest", "held_tangle", "_law_jar", "_law_draw", "_law_back", "_law_letters", "_law_plain", "_law_puffed", "_law_matrix", "_law_order", "_law_kept", "_law_same", "_law_asked", "_law_words"] w := by
  rw [mkW_eq w]
  cases w.params.followText "special-get-raises"
  · exact runF w
  · exact runT w
theorem facts {P : Program} {w : World} {K : PySem.W.Frag} {h : Heap} {mg : Str → Option Value} {f : Addr} (X : K.In h) (G : h.Ns mainGlobals mg) (hfa : mg ("law" : Str) = some (.ref f)) (c0 : He.SaysX fa fn ts [] ex w h K) :
    ∃ fd : FuncData, (∀ (s : Shared) (v : Value), BindsTo s fd ⟨[v], []⟩ [("script", v)]) ∧ ∀ base : Heap, K.In base → base.Ns mainGlobals mg → FnOk P w K mg base CX0 5 f fd ["script"] (spLaw K) := by
  have c := c0.t.d
  have cx := c0.more
  obtain ⟨fd__law_jar, F__law_jar⟩ := c.def_ 0 (d := d__law_jar) rfl
  have g__law_jar := He.glo_ok X G (c.fact 0 (f := .glo "_law_jar") rfl)
  obtain ⟨fd__law_draw, F__law_draw⟩ := c.def_ 1 (d := d__law_draw) rfl
  have g__law_draw := He.glo_ok X G (c.fact 1 (f := .glo "_law_draw") rfl)
  obtain ⟨fd__law_plain, F__law_plain⟩ := c.def_ 2 (d := d__law_plain) rfl
  have g__law_plain := He.glo_ok X G (c.fact 2 (f := .glo "_law_plain") rfl)
  obtain ⟨fd__law_letters, F__law_letters⟩ := c.def_ 3 (d := d__law_letters) rfl
  have g__law_letters := He.glo_ok X G (c.fact 3 (f := .glo "_law_letters") rfl)
  obtain ⟨fd__law_puffed, F__law_puffed⟩ := c.def_ 4 (d := d__law_puffed) rfl
  have g__law_puffed := He.glo_ok X G (c.fact 4 (f := .glo "_law_puffed") rfl)
  obtain ⟨fd__law_back, F__law_back⟩ := c.def_ 5 (d := d__law_back) rfl
  have g__law_back := He.glo_ok X G (c.fact 5 (f := .glo "_law_back") rfl)
  obtain ⟨fd__law_words, F__law_words⟩ := c.def_ 6 (d := d__law_words) rfl
  have g__law_words := He.glo_ok X G (c.fact 6 (f := .glo "_law_words") rfl)
  obtain ⟨fd_reduced, F_reduced⟩ := c.def_ 7 (d := d_reduced) rfl
  have g_reduced := He.glo_ok X G (c.fact 7 (f := .glo "reduced") rfl)
  obtain ⟨fd_turn_order, F_turn_order⟩ := c.def_ 8 (d := d_turn_order) rfl
  have g_turn_order := He.glo_ok X G (c.fact 8 (f := .glo "turn_order") rfl)
  obtain ⟨fd_behind, F_behind⟩ := c.def_ 9 (d := d_behind) rfl
  have g_behind := He.glo_ok X G (c.fact 9 (f := .glo "behind") rfl)
  obtain ⟨fd_lowest, F_lowest⟩ := c.def_ 10 (d := d_lowest) rfl
  have g_lowest := He.glo_ok X G (c.fact 10 (f := .glo "lowest") rfl)
  obtain ⟨fd_held_tangle, F_held_tangle⟩ := c.def_ 11 (d := d_held_tangle) rfl
  have g_held_tangle := He.glo_ok X G (c.fact 11 (f := .glo "held_tangle") rfl)
  obtain ⟨fd__law_same, F__law_same⟩ := c.def_ 12 (d := d__law_same) rfl
  have g__law_same := He.glo_ok X G (c.fact 12 (f := .glo "_law_same") rfl)
  obtain ⟨fd__law_matrix, F__law_matrix⟩ := c.def_ 13 (d := d__law_matrix) rfl
  have g__law_matrix := He.glo_ok X G (c.fact 13 (f := .glo "_law_matrix") rfl)
  obtain ⟨fd__law_order, F__law_order⟩ := c.def_ 14 (d := d__law_order) rfl
  have g__law_order := He.glo_ok X G (c.fact 14 (f := .glo "_law_order") rfl)
  obtain ⟨fd__law_kept, F__law_kept⟩ := c.def_ 15 (d := d__law_kept) rfl
  have g__law_kept := He.glo_ok X G (c.fact 15 (f := .glo "_law_kept") rfl)
  obtain ⟨fd__law_asked, F__law_asked⟩ := c.def_ 16 (d := d__law_asked) rfl
  have g__law_asked := He.glo_ok X G (c.fact 16 (f := .glo "_law_asked") rfl)
  obtain ⟨fd_law, F_law⟩ := c.def_ 17 (d := d_law) rfl
  have e := hfa.symm.trans (He.glo_ok X G (c.fact 17 (f := .glo "law") rfl))
  cases e
  have b := FunD.bindsA (ps := ["script"]) F_law fun _ _ _ _ _ _ us hl => match us, hl with | [_], _ => rfl
  have T : Tx K w mg := ⟨He.free_ok X G (c.fact 20 (f := .free "abs") rfl), He.free_ok X G (c.fact 21 (f := .free "bool") rfl), He.free_ok X G (c.fact 22 (f := .free "int") rfl), He.free_ok X G (c.fact 23 (f := .free "isinstance") rfl), He.free_ok X G (c.fact 24 (f := .free "len") rfl), He.free_ok X G (c.fact 25 (f := .free "range") rfl), He.free_ok X G (c.fact 26 (f := .free "tuple") rfl), tabB_ok (x := "PRODUCTS") (exB_PRODUCTS cx) (He.glo_ok X G (c.fact 18 (f := .glo "PRODUCTS") rfl)) (c0.t.tab 0 (t := (fun K => He.ga K "PRODUCTS", ks_PRODUCTS))), tabB_ok (x := "ROWS") (exB_ROWS cx) (He.glo_ok X G (c.fact 19 (f := .glo "ROWS") rfl)) (c0.t.tab 1 (t := (fun K => He.ga K "ROWS", ks_ROWS))), bfB_ok X G (exB_gcd cx)⟩
  refine ⟨fd_law, fun s v => b s [v] rfl, fun base _ _ => ?_⟩
  have k__law_jar := ok__law_jar (P := P) (w := w) (base := base) F__law_jar g__law_jar T 
  have k__law_draw := ok__law_draw (P := P) (w := w) (base := base) F__law_draw g__law_draw T
  have k__law_plain := ok__law_plain (P := P) (w := w) (base := base) (J := jarN K good) F__law_plain g__law_plain T rfl k__law_draw
  have k__law_letters := ok__law_letters (P := P) (w := w) (base := base) (J := jarN K good) F__law_letters g__law_letters T rfl k__law_draw
  have k__law_puffed := ok__law_puffed (P := P) (w := w) (base := base) (J := jarN K good) F__law_puffed g__law_puffed T rfl k__law_draw
  have k__law_back := ok__law_back (P := P) (w := w) (base := base) (J := jarN K good) F__law_back g__law_back T rfl 
  have k__law_words := ok__law_words (P := P) (w := w) (base := base) (J := jarN K good) F__law_words g__law_words T rfl k__law_draw k__law_plain k__law_letters k__law_puffed k__law_back
  have k_reduced := ok_reduced (P := P) (w := w) (base := base) (J := jarN K good) F_reduced g_reduced T rfl 
  have k_turn_order := ok_turn_order (P := P) (w := w) (base := base) (J := jarN K good) F_turn_order g_turn_order T rfl k_reduced
  have k_behind := ok_behind (P := P) (w := w) (base := base) (J := jarN K good) F_behind g_behind T rfl 
  have k_lowest := ok_lowest (P := P) (w := w) (base := base) (J := jarN K good) F_lowest g_lowest T rfl 
  have k_held_tangle := ok_held_tangle (P := P) (w := w) (base := base) (J := jarN K good) F_held_tangle g_held_tangle T rfl k_behind k_lowest
  have k__law_same := ok__law_same (P := P) (w := w) (base := base) (J := jarN K good) F__law_same g__law_same T rfl  3
  have k__law_matrix := ok__law_matrix (P := P) (w := w) (base := base) (J := jarN K good) F__law_matrix g__law_matrix T rfl 
  have k__law_order := ok__law_order (P := P) (w := w) (base := base) (J := jarN K good) F__law_order g__law_order T rfl 
  have k__law_kept := ok__law_kept (P := P) (w := w) (base := base) (J := jarN K good) F__law_kept g__law_kept T rfl 
  have k__law_asked := ok__law_asked (P := P) (w := w) (base := base) (J := jarN K good) F__law_asked g__law_asked T rfl k__law_matrix k__law_order k__law_same k__law_kept k_turn_order k_held_tangle
  exact ok_law F_law T k__law_jar k__law_words k__law_draw k_turn_order k_held_tangle k__law_same k__law_asked k__law_back
end K03
open PySem PySem.W PySem.Calls PyProof.Rows
theorem PySem.Challenge.cw_calledloose_k03_turns_holds : PySem.Challenge.rw_calledloose_k03_turns.Holds := by
  w_on; o_law
  refine HandSHeadRun.head_imp (r := OpenLaw.row PySem.Challenge.rw_calledloose_k03_turns) (q := view (OpenLaw.row PySem.Challenge.rw_calledloose_k03_turns).prog [0, 23]) (H := K03.hk) (ob := K03.ob) (M := 2000) (loose := ["PRODUCTS", "reduced", "ROWS", "turn_order", "behind", "lowest", "held_tangle", "_law_jar", "_law_draw", "_law_back", "_law_letters", "_law_plain", "_law_puffed", "_law_matrix", "_law_order", "_law_kept", "_law_same", "_law_asked", "_law_words"]) (d := HandSHeadRun.topDef (OpenLaw.row PySem.Challenge.rw_calledloose_k03_turns).prog 23) (kwd := []) K03.ob_eq
    K03.run (by kernel_rfl) (by kernel_rfl) (by kernel_rfl) (by rfl) (by first | assumption | decide +kernel) (by decide +kernel) ⟨rfl, rfl, rfl, rfl, rfl, by decide +kernel⟩ ?hw ?hc
  case hw => w_witness2
  case hc =>
    refine L2.walk_ofE (l := PySem.Challenge.rw_calledloose_k03_turns) (n := 63) (k := 5) (x := "script") (CX := L2.CX0) rfl (by decide) (by kernel_rfl) ⟨rfl, by decide, by decide⟩ ?F (fun _ _ _ _ z => z)
    intro w mg fa h Y G hmg0
    obtain ⟨K, KX, c⟩ := Y
    have hmg : mg ("law" : PySem.Str) = some (.ref fa) := by
      have e : (HandSHeadRun.topDef (OpenLaw.row PySem.Challenge.rw_calledloose_k03_turns).prog 23).name = ("law" : PySem.Str) := by kernel_rfl
      rw [← e]
      exact hmg0
    obtain ⟨fd, hb, hF⟩ := K03.facts (P := (PySem.Challenge.rw_calledloose_k03_turns).prog) (w := w) KX G hmg c
    exact ⟨K, fd, Zd.spLaw K, KX, hb, fun H a ns hl _ hS => ⟨a, ns, rfl, hS, hl, fun _ => rfl⟩, hF⟩

