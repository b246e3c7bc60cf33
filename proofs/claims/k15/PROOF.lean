import PyProof.Rows.All
import Wide.All
import OpenK.AllK
import Wide.FinOn
import HandS.ForMost
import HandS.IsInst
import HandS.TupAny
import HandS.Wide
import HandS.WideBits
import HandS.Zip
import HandS.Gcd
import HandS.Walk
import PyProof.StrOps2
import HandS.Conv
import PyProof.ListStr
import PyProof.TupleOfStr
import HandS.Defaults
import HandS.HeadHook3
import HandS.HeadHook4
import HandS.Style
import HandS.Text
import HandS.Replace
import HandS.Iter
import PyProof.AutoSeq1
import KE.GoesMore
import KE.GoesZip
import KE.GoesEnum
import HandS.Exc
import HandS.ExcInit
import HandS.ExcField
import HandS.ExcIs
import HandS.TryMany
import KE.KExcSuper
import KE.KSuper
import HandS.ExcOwn
import KE.KExcIs
import KE.SortData
import PyProof.Transfer
import KE.KStateDown
import Lean
import HandS.Base
import HandS.Call
import HandS.Ends
import HandS.More
import HandS.Words
import HandS.WordsExc
import HandS.Head0
import HandS.Head1
import HandS.Head2
import HandS.Head3
import HandS.HeadEnd
import HandS.HeadHook1
import HandS.HeadHook2
import PySem.Challenge.RW_calledloose_k15_check_code
set_option Elab.async false
set_option linter.all false
set_option maxRecDepth 100000
set_option maxHeartbeats 4000000
/-! A layer over plain data: what an expression, a statement, a def does is told by predicates over PyData, no heap in sight. -/
namespace Zd
open PySem PySem.Spec PyProof.Rows L2

abbrev D := PyData
/-- a part of the open drawing thing: data, a list, a dict -/
inductive Nd where
  | d (x : D)
  | l (ds : List D)
  | m (ks : List Key) (ds : List D)
/-- what the drawing thing holds; top: none if it is a list, else the keys of the dict -/
structure Jc where
  top : Option (List Str)
  es : List Nd
/-- what a slot holds: nothing known, data, a list of the def's own that may grow, a dict of the def's own, the law's drawing thing -/
inductive Sl where
  | un
  | da (d : D)
  | ow (ds : List D)
  | od (kvs : List (Key × D))
  | ja
  | jo (c : Jc)
/-- tuples stand as they stood -/
def isTup : HO → Bool
  | .tup _ => true
  | .frz _ (.tup _) => true
  | _ => false
def KeepT (H H' : Hp) : Prop := ∀ a o, H a = some o → isTup o = true → H' a = some o
theorem KeepT.refl (H : Hp) : KeepT H H := fun _ _ e _ => e
theorem KeepT.trans {H1 H2 H3 : Hp} (h : KeepT H1 H2) (h' : KeepT H2 H3) : KeepT H1 H3 := fun a o e t => h' a o (h a o e t) t
theorem keep_new {H : Hp} {p : Addr} {o : HO} (h : H p = none) : KeepT H (upd H p o) := fun a u e _ => by rw [upd_ne (ne_of_none e h)]; exact e
theorem keep_upd {H : Hp} {p : Addr} {o u : HO} (h : H p = some u) (hu : isTup u = false) : KeepT H (upd H p o) := fun a w e t => by
  by_cases q : a = p
  · subst q
    rw [h] at e
    cases e
    rw [hu] at t
    cases t
  · rw [upd_ne q]
    exact e
mutual
/-- data without a list or a dict -/
def isT : PyData → Bool
  | .list _ => false
  | .dict _ => false
  | .tuple ds => isTs ds
  | _ => true
def isTs : List PyData → Bool
  | [] => true
  | d :: ds => isT d && isTs ds
end
structure Jr where
  is : List Addr → V → Hp → Prop
  loc : ∀ {as v H H'}, (∀ a ∈ as, H' a = H a) → KeepT H H' → is as v H → is as v H'
  dom : ∀ {as v H}, is as v H → ∀ a ∈ as, H a ≠ none
  jx : Option Nat := none
/-- the entry: the heap, the part of it that is data, the drawing thing's cells and value -/
structure En where
  He : Hp
  H0 : Hp
  as : List Addr
  jv : V

theorem same_up {H : Hp} {p : Addr} {o : HO} (h : H p = none) : Same H (upd H p o) := fun b x e => by
  rw [upd_ne (ne_of_none e h)]
  exact e
theorem same_up2 {H G : Hp} {p : Addr} {o : HO} (e : Same H G) : Same (upd H p o) (upd G p o) := fun b x h => by
  by_cases q : b = p
  · subst q; rw [upd_same] at h ⊢; exact h
  · rw [upd_ne q] at h ⊢; exact e b x h
theorem same_t {K : PySem.W.Frag} {H H' : Hp} {a : Addr} {xs : List V} (e : Same H H') (h : SqT K H a xs) : SqT K H' a xs := by
  rcases h with (h | ⟨o, h⟩) | h
  · exact .inl (.inl (e _ _ h))
  · exact .inl (.inr ⟨o, e _ _ h⟩)
  · exact .inr h
mutual
/-- data as it stands in a heap -/
inductive Dq (K : PySem.W.Frag) (H : Hp) : V → PyData → Prop
  | non : Dq K H .non .none
  | bl (b : Bool) : Dq K H (.bl b) (.bool b)
  | int (i : Int) : Dq K H (.int i) (.int i)
  | str (x : Str) : Dq K H (.str x) (.str x)
  | lst {p : Addr} {vs : List V} {ds : List PyData} (h : SqL K H p vs) (hd : DqAll K H vs ds) : Dq K H (.ref p) (.list ds)
  | tup {p : Addr} {vs : List V} {ds : List PyData} (h : SqT K H p vs) (hd : DqAll K H vs ds) : Dq K H (.ref p) (.tuple ds)
inductive DqAll (K : PySem.W.Frag) (H : Hp) : List V → List PyData → Prop
  | nil : DqAll K H [] []
  | cons {x : V} {xs : List V} {d : PyData} {ds : List PyData} (h : Dq K H x d) (t : DqAll K H xs ds) : DqAll K H (x :: xs) (d :: ds)
end
mutual
theorem dq_dp {K : PySem.W.Frag} {H : Hp} : ∀ (d : PyData) (v : V), Dq K H v d → L2.Dp K H v d
  | .none, _, h => by cases h; exact .non
  | .bool _, _, h => by cases h; exact .bl _
  | .int _, _, h => by cases h; exact .int _
  | .str _, _, h => by cases h; exact .str _
  | .list ds, _, h => by cases h with | lst hs ha => exact .lst hs (dqa_dp ds _ ha)
  | .tuple ds, _, h => by cases h with | tup hs ha => exact .tup hs (dqa_dp ds _ ha)
  | .dict _, _, h => by cases h
theorem dqa_dp {K : PySem.W.Frag} {H : Hp} : ∀ (ds : List PyData) (vs : List V), DqAll K H vs ds → L2.DpAll K H vs ds
  | [], _, h => by cases h; exact .nil
  | d :: ds, _, h => by cases h with | cons h1 h2 => exact .cons (dq_dp d _ h1) (dqa_dp ds _ h2)
end
mutual
theorem dp_mono {K : PySem.W.Frag} {H H' : Hp} (e : Same H H') : ∀ (d : PyData) (v : V), Dq K H v d → Dq K H' v d
  | .none, _, h => by cases h; exact .non
  | .bool _, _, h => by cases h; exact .bl _
  | .int _, _, h => by cases h; exact .int _
  | .str _, _, h => by cases h; exact .str _
  | .list ds, _, h => by cases h with | lst hs ha => exact .lst (e.seq hs) (dpa_mono e ds _ ha)
  | .tuple ds, _, h => by cases h with | tup hs ha => exact .tup (same_t e hs) (dpa_mono e ds _ ha)
  | .dict _, _, h => by cases h
theorem dpa_mono {K : PySem.W.Frag} {H H' : Hp} (e : Same H H') : ∀ (ds : List PyData) (vs : List V), DqAll K H vs ds → DqAll K H' vs ds
  | [], _, h => by cases h; exact .nil
  | d :: ds, _, h => by cases h with | cons h1 h2 => exact .cons (dp_mono e d _ h1) (dpa_mono e ds _ h2)
end
theorem dpa_len {K : PySem.W.Frag} {H : Hp} : ∀ {ds : List PyData} {vs : List V}, DqAll K H vs ds → vs.length = ds.length
  | [], _, h => by cases h; rfl
  | d :: ds, _, h => by cases h with | cons h1 h2 => rw [List.length_cons, List.length_cons, dpa_len h2]
theorem dpa_get {K : PySem.W.Frag} {H : Hp} : ∀ {ds : List PyData} {vs : List V} {i : Nat} {x : V}, DqAll K H vs ds → vs[i]? = some x → ∃ d, ds[i]? = some d ∧ Dq K H x d
  | [], _, _, _, h, e => by cases h; simp at e
  | d :: ds, _, 0, x, h, e => by
    cases h with
    | cons h1 h2 =>
      have q := Option.some.inj e
      subst q
      exact ⟨d, rfl, h1⟩
  | d :: ds, _, i + 1, x, h, e => by
    cases h with
    | cons h1 h2 => exact dpa_get (i := i) h2 e
theorem dpa_get' {K : PySem.W.Frag} {H : Hp} : ∀ {ds : List PyData} {vs : List V} {i : Nat} {d : D}, DqAll K H vs ds → ds[i]? = some d → ∃ x, vs[i]? = some x ∧ Dq K H x d
  | [], _, _, _, h, e => by simp at e
  | d :: ds, _, 0, x, h, e => by
    cases h with
    | cons h1 h2 =>
      have q := Option.some.inj e
      subst q
      exact ⟨_, rfl, h1⟩
  | d :: ds, _, i + 1, x, h, e => by
    cases h with
    | cons h1 h2 => exact dpa_get' (i := i) h2 e
theorem dpa_app {K : PySem.W.Frag} {H : Hp} : ∀ {ds es : List PyData} {vs us : List V}, DqAll K H vs ds → DqAll K H us es → DqAll K H (vs ++ us) (ds ++ es)
  | [], _, _, _, h, k => by cases h; exact k
  | d :: ds, _, _, _, h, k => by cases h with | cons h1 h2 => exact .cons h1 (dpa_app h2 k)
theorem dpa_one {K : PySem.W.Frag} {H : Hp} {v : V} {d : D} (h : Dq K H v d) : DqAll K H [v] [d] := .cons h .nil
theorem dpa_take {K : PySem.W.Frag} {H : Hp} : ∀ {ds : List PyData} {vs : List V} (n : Nat), DqAll K H vs ds → DqAll K H (vs.take n) (ds.take n)
  | _, _, 0, _ => .nil
  | [], _, _ + 1, h => by cases h; exact .nil
  | _ :: _, _, n + 1, h => by cases h with | cons h1 h2 => exact .cons h1 (dpa_take n h2)
theorem dpa_drop {K : PySem.W.Frag} {H : Hp} : ∀ {ds : List PyData} {vs : List V} (n : Nat), DqAll K H vs ds → DqAll K H (vs.drop n) (ds.drop n)
  | _, _, 0, h => h
  | [], _, _ + 1, h => by cases h; exact .nil
  | _ :: _, _, n + 1, h => by cases h with | cons h1 h2 => exact dpa_drop n h2
theorem dp_int {K : PySem.W.Frag} {H : Hp} {v : V} {i : Int} (h : Dq K H v (.int i)) : v = .int i := by cases h; rfl
theorem dp_bool {K : PySem.W.Frag} {H : Hp} {v : V} {i : Bool} (h : Dq K H v (.bool i)) : v = .bl i := by cases h; rfl
theorem dp_str {K : PySem.W.Frag} {H : Hp} {v : V} {i : Str} (h : Dq K H v (.str i)) : v = .str i := by cases h; rfl
theorem dp_none {K : PySem.W.Frag} {H : Hp} {v : V} (h : Dq K H v .none) : v = .non := by cases h; rfl
theorem dp_tup {K : PySem.W.Frag} {H : Hp} {v : V} {ds : List D} (h : Dq K H v (.tuple ds)) : ∃ a xs, v = .ref a ∧ SqT K H a xs ∧ DqAll K H xs ds := by cases h with | tup h1 h2 => exact ⟨_, _, rfl, h1, h2⟩
theorem dp_lst {K : PySem.W.Frag} {H : Hp} {v : V} {ds : List D} (h : Dq K H v (.list ds)) : ∃ a xs, v = .ref a ∧ SqL K H a xs ∧ DqAll K H xs ds := by cases h with | lst h1 h2 => exact ⟨_, _, rfl, h1, h2⟩

mutual
theorem dq_keep {K : PySem.W.Frag} {H H' : Hp} (e : KeepT H H') : ∀ (d : PyData) (v : V), isT d = true → Dq K H v d → Dq K H' v d
  | .none, _, _, h => by cases h; exact .non
  | .bool _, _, _, h => by cases h; exact .bl _
  | .int _, _, _, h => by cases h; exact .int _
  | .str _, _, _, h => by cases h; exact .str _
  | .list ds, _, t, h => by cases t
  | .tuple ds, _, t, h => by
    cases h with
    | tup hs ha =>
      refine .tup ?_ (dqa_keep e ds _ t ha)
      rcases hs with (h | ⟨o, h⟩) | h
      · exact .inl (.inl (e _ _ h rfl))
      · exact .inl (.inr ⟨o, e _ _ h rfl⟩)
      · exact .inr h
  | .dict _, _, t, h => by cases t
theorem dqa_keep {K : PySem.W.Frag} {H H' : Hp} (e : KeepT H H') : ∀ (ds : List PyData) (vs : List V), isTs ds = true → DqAll K H vs ds → DqAll K H' vs ds
  | [], _, _, h => by cases h; exact .nil
  | d :: ds, _, t, h => by
    have t' : (isT d && isTs ds) = true := t
    cases h with | cons h1 h2 => exact .cons (dq_keep e d _ (Bool.and_eq_true_iff.mp t').1 h1) (dqa_keep e ds _ (Bool.and_eq_true_iff.mp t').2 h2)
end
inductive NdAll (K : PySem.W.Frag) (H : Hp) : List V → List Nd → List Addr → Prop
  | nil : NdAll K H [] [] []
  | dat {x : V} {d : D} {xs : List V} {es : List Nd} {bs : List Addr} (h : Dq K H x d) (ht : isT d = true) (t : NdAll K H xs es bs) : NdAll K H (x :: xs) (.d d :: es) bs
  | lst {b : Addr} {ys : List V} {ds : List D} {xs : List V} {es : List Nd} {bs : List Addr} (h : H b = some (.lst ys)) (hd : DqAll K H ys ds) (ht : isTs ds = true) (hn : b ∉ bs) (t : NdAll K H xs es bs) : NdAll K H (.ref b :: xs) (.l ds :: es) (b :: bs)
  | dic {b : Addr} {ys : List V} {ks : List Key} {ds : List D} {xs : List V} {es : List Nd} {bs : List Addr} (h : H b = some (.dK (ks.zip ys))) (hl : ks.length = ys.length) (hd : DqAll K H ys ds) (ht : isTs ds = true) (hn : b ∉ bs) (t : NdAll K H xs es bs) : NdAll K H (.ref b :: xs) (.m ks ds :: es) (b :: bs)
theorem NdAll.loc {K : PySem.W.Frag} {H H' : Hp} (S : KeepT H H') : ∀ {xs : List V} {es : List Nd} {bs : List Addr}, (∀ b ∈ bs, H' b = H b) → NdAll K H xs es bs → NdAll K H' xs es bs
  | _, _, _, _, .nil => .nil
  | _, _, _, e, .dat h ht t => .dat (dq_keep S _ _ ht h) ht (NdAll.loc S e t)
  | _, _, _, e, .lst h hd ht hn t => .lst (by rw [e _ (List.mem_cons_self ..)]; exact h) (dqa_keep S _ _ ht hd) ht hn (NdAll.loc S (fun b m => e b (List.mem_cons_of_mem _ m)) t)
  | _, _, _, e, .dic h hl hd ht hn t => .dic (by rw [e _ (List.mem_cons_self ..)]; exact h) hl (dqa_keep S _ _ ht hd) ht hn (NdAll.loc S (fun b m => e b (List.mem_cons_of_mem _ m)) t)
theorem NdAll.dom {K : PySem.W.Frag} {H : Hp} : ∀ {xs : List V} {es : List Nd} {bs : List Addr}, NdAll K H xs es bs → ∀ b ∈ bs, ∃ o, H b = some o ∧ isTup o = false
  | _, _, _, .nil => fun b m => by cases m
  | _, _, _, .dat _ _ t => NdAll.dom t
  | _, _, _, .lst h _ _ _ t => fun b m => by
    rcases List.mem_cons.mp m with q | q
    · rw [q]; exact ⟨_, h, rfl⟩
    · exact NdAll.dom t b q
  | _, _, _, .dic h _ _ _ _ t => fun b m => by
    rcases List.mem_cons.mp m with q | q
    · rw [q]; exact ⟨_, h, rfl⟩
    · exact NdAll.dom t b q
/-- the top of the drawing thing -/
def topHO (top : Option (List Str)) (xs : List V) : HO := match top with
  | none => .lst xs
  | some ks => .dK ((ks.map Sum.inr).zip xs)
theorem topHO_nt (top : Option (List Str)) (xs : List V) : isTup (topHO top xs) = false := by cases top <;> rfl
/-- the drawing thing stands at v with content c, its cells as -/
def JAt (K : PySem.W.Frag) (H : Hp) (as : List Addr) (v : V) (c : Jc) : Prop :=
  ∃ (j : Addr) (xs : List V) (bs : List Addr), as = j :: bs ∧ v = .ref j ∧ H j = some (topHO c.top xs) ∧ NdAll K H xs c.es bs ∧ j ∉ bs ∧ ∀ ks, c.top = some ks → ks.length = xs.length ∧ ks.Nodup
theorem JAt.loc {K : PySem.W.Frag} {H H' : Hp} {as : List Addr} {v : V} {c : Jc} (e : ∀ a ∈ as, H' a = H a) (S : KeepT H H') : JAt K H as v c → JAt K H' as v c := fun ⟨j, xs, bs, h1, h2, h3, h4, h5, h6⟩ => by
  subst h1
  exact ⟨j, xs, bs, rfl, h2, by rw [e _ (List.mem_cons_self ..)]; exact h3, h4.loc S fun b m => e b (List.mem_cons_of_mem _ m), h5, h6⟩
theorem JAt.dom {K : PySem.W.Frag} {H : Hp} {as : List Addr} {v : V} {c : Jc} : JAt K H as v c → ∀ a ∈ as, H a ≠ none := fun ⟨j, xs, bs, h1, h2, h3, h4, _⟩ a m => by
  subst h1
  rcases List.mem_cons.mp m with q | q
  · rw [q, h3]; intro z; cases z
  · obtain ⟨o, e, _⟩ := h4.dom a q
    rw [e]; intro z; cases z
def SlOk (K : PySem.W.Frag) (n : En) (σ : L2.St) (H H0 : Hp) (i : Nat) : Sl → Prop
  | .un => True
  | .da d => ∃ v, σ[i]? = some (some v) ∧ Dq K H0 v d
  | .ow ds => ∃ a xs, σ[i]? = some (some (.ref a)) ∧ H a = some (.lst xs) ∧ DqAll K H0 xs ds ∧ H0 a = none ∧ n.He a = none
  | .od ds => ∃ a xs, σ[i]? = some (some (.ref a)) ∧ H a = some (.dK ((ds.map (·.1)).zip xs)) ∧ DqAll K H0 xs (ds.map (·.2)) ∧ H0 a = none ∧ n.He a = none
  | .ja => σ[i]? = some (some n.jv) ∧ n.as ≠ []
  | .jo c => σ[i]? = some (some n.jv) ∧ n.as ≠ [] ∧ JAt K H n.as n.jv c
structure Rp (K : PySem.W.Frag) (J : Jr) (n : En) (σ : L2.St) (H H0 : Hp) (ρ : List Sl) : Prop where
  len : σ.length = ρ.length
  sub : Same H0 H
  sl : ∀ i s, ρ[i]? = some s → SlOk K n σ H H0 i s
  sep : ∀ (i j : Nat) (ds es : List D), i ≠ j → ρ[i]? = some (Sl.ow ds) → ρ[j]? = some (Sl.ow es) → σ[i]? ≠ σ[j]?
  fr : ∀ a o, a ∉ n.as → n.He a = some o → H a = some o
  base : Same n.H0 H0
  fresh : ∀ a, n.H0 a = none → n.He a ≠ none → H0 a = none
  jar : n.as ≠ [] → J.is n.as n.jv H
  jdom : ∀ a ∈ n.as, n.H0 a = none ∧ n.He a ≠ none
  jx : ∀ i c, ρ[i]? = some (Sl.jo c) → J.jx = some i
/-- a result: data, or a new list that nothing else knows -/
def ResOk (K : PySem.W.Frag) (n : En) (σ : L2.St) (ρ : List Sl) (H H0 : Hp) (v : V) : Sl → Prop
  | .da d => Dq K H0 v d
  | .ow ds => ∃ a xs, v = .ref a ∧ H a = some (.lst xs) ∧ DqAll K H0 xs ds ∧ H0 a = none ∧ n.He a = none ∧ ∀ (i : Nat) (es : List D), ρ[i]? = some (Sl.ow es) → σ[i]? ≠ some (some (V.ref a))
  | .od ds => ∃ a xs, v = .ref a ∧ H a = some (.dK ((ds.map (·.1)).zip xs)) ∧ DqAll K H0 xs (ds.map (·.2)) ∧ H0 a = none ∧ n.He a = none ∧ ∀ (i : Nat) (es : List (Key × D)), ρ[i]? = some (Sl.od es) → σ[i]? ≠ some (some (V.ref a))
  | _ => False
def RetOk (K : PySem.W.Frag) (J : Jr) (n : En) (H : Hp) (v : V) (r : Sl) : Prop :=
  ∃ H0, Same H0 H ∧ (∀ a o, a ∉ n.as → n.He a = some o → H a = some o) ∧ Same n.H0 H0 ∧ (∀ a, n.H0 a = none → n.He a ≠ none → H0 a = none) ∧ (n.as ≠ [] → J.is n.as n.jv H) ∧ ResOk K n [] [] H H0 v r

section
variable {K : PySem.W.Frag} {J : Jr} {n : En} {σ : L2.St} {H H0 : Hp} {ρ : List Sl} {v : V} {r : Sl}
theorem Rp.hej (R : Rp K J n σ H H0 ρ) {a : Addr} (h : n.He a ≠ none) : H a ≠ none := by
  by_cases q : a ∈ n.as
  · exact J.dom (R.jar (by intro e; rw [e] at q; cases q)) a q
  · cases e : n.He a with
    | none => exact absurd e h
    | some o => rw [R.fr a o q e]; intro z; cases z
theorem Rp.he0 (R : Rp K J n σ H H0 ρ) {a : Addr} (h : H a = none) : n.He a = none := by
  cases e : n.He a with
  | none => rfl
  | some o => exact absurd h (R.hej (by rw [e]; intro z; cases z))
theorem Rp.h0 (R : Rp K J n σ H H0 ρ) {a : Addr} (h : H a = none) : H0 a = none := R.sub.free h
theorem Rp.jh0 (R : Rp K J n σ H H0 ρ) {a : Addr} (h : a ∈ n.as) : H0 a = none := R.fresh a (R.jdom a h).1 (R.jdom a h).2
theorem Rp.asne (R : Rp K J n σ H H0 ρ) {p : Addr} {o : HO} (h : H p = none) (q : n.as ≠ []) : ∀ a ∈ n.as, upd H p o a = H a := fun a ha => upd_ne (fun e => J.dom (R.jar q) a ha (by rw [e]; exact h))
/-- a new object that is data -/
theorem Rp.alloc (R : Rp K J n σ H H0 ρ) {p : Addr} {o : HO} (h : H p = none) : Rp K J n σ (upd H p o) (upd H0 p o) ρ where
  len := R.len
  sub := same_up2 R.sub
  sl := fun i s e => by
    have q := R.sl i s e
    cases s with
    | un => trivial
    | da d =>
      obtain ⟨v, h1, h2⟩ := q
      exact ⟨v, h1, dp_mono (same_up (R.h0 h)) d v h2⟩
    | ow ds =>
      obtain ⟨a, xs, h1, h2, h3, h4, h5⟩ := q
      have np : a ≠ p := ne_of_none h2 h
      exact ⟨a, xs, h1, by rw [upd_ne np]; exact h2, dpa_mono (same_up (R.h0 h)) _ xs h3, by rw [upd_ne np]; exact h4, h5⟩
    | od ds =>
      obtain ⟨a, xs, h1, h2, h3, h4, h5⟩ := q
      have np : a ≠ p := ne_of_none h2 h
      exact ⟨a, xs, h1, by rw [upd_ne np]; exact h2, dpa_mono (same_up (R.h0 h)) _ xs h3, by rw [upd_ne np]; exact h4, h5⟩
    | ja => exact q
    | jo c => exact ⟨q.1, q.2.1, q.2.2.loc (R.asne h q.2.1) (keep_new h)⟩
  sep := R.sep
  fr := fun a u ha e => by rw [upd_ne (ne_of_none (R.fr a u ha e) h)]; exact R.fr a u ha e
  base := R.base.trans (same_up (R.h0 h))
  fresh := fun a h1 h2 => by
    have np : a ≠ p := fun q => (R.hej h2) (by rw [q]; exact h)
    rw [upd_ne np]
    exact R.fresh a h1 h2
  jar := fun q => J.loc (fun a ha => R.asne h q a ha) (keep_new h) (R.jar q)
  jdom := R.jdom
  jx := R.jx
/-- a new object that is not data (so far) -/
theorem Rp.laid (R : Rp K J n σ H H0 ρ) {p : Addr} {o : HO} (h : H p = none) : Rp K J n σ (upd H p o) H0 ρ where
  len := R.len
  sub := R.sub.trans (same_up h)
  sl := fun i s e => by
    have q := R.sl i s e
    cases s with
    | un => trivial
    | da d => exact q
    | ow ds =>
      obtain ⟨a, xs, h1, h2, h3, h4, h5⟩ := q
      exact ⟨a, xs, h1, by rw [upd_ne (ne_of_none h2 h)]; exact h2, h3, h4, h5⟩
    | od ds =>
      obtain ⟨a, xs, h1, h2, h3, h4, h5⟩ := q
      exact ⟨a, xs, h1, by rw [upd_ne (ne_of_none h2 h)]; exact h2, h3, h4, h5⟩
    | ja => exact q
    | jo c => exact ⟨q.1, q.2.1, q.2.2.loc (R.asne h q.2.1) (keep_new h)⟩
  sep := R.sep
  fr := fun a u ha e => by rw [upd_ne (ne_of_none (R.fr a u ha e) h)]; exact R.fr a u ha e
  base := R.base
  fresh := R.fresh
  jar := fun q => J.loc (fun a ha => R.asne h q a ha) (keep_new h) (R.jar q)
  jdom := R.jdom
  jx := R.jx
/-- a new list becomes data -/
theorem Rp.freeze (R : Rp K J n σ H H0 ρ) {a : Addr} {xs : List V} (h : H a = some (.lst xs)) (h0 : H0 a = none) (he : n.He a = none) (hs : ∀ (i : Nat) (es : List D), ρ[i]? = some (Sl.ow es) → σ[i]? ≠ some (some (V.ref a))) :
    Rp K J n σ H (upd H0 a (.lst xs)) ρ where
  len := R.len
  sub := fun b o e => by
    by_cases q : b = a
    · subst q; rw [upd_same] at e; rw [h]; exact e
    · rw [upd_ne q] at e; exact R.sub b o e
  sl := fun i s e => by
    have q := R.sl i s e
    cases s with
    | un => trivial
    | da d =>
      obtain ⟨v, h1, h2⟩ := q
      exact ⟨v, h1, dp_mono (same_up h0) d v h2⟩
    | ow ds =>
      obtain ⟨b, ys, h1, h2, h3, h4, h5⟩ := q
      have np : b ≠ a := fun z => hs i ds e (by rw [h1, z])
      exact ⟨b, ys, h1, h2, dpa_mono (same_up h0) _ ys h3, by rw [upd_ne np]; exact h4, h5⟩
    | od ds =>
      obtain ⟨b, ys, h1, h2, h3, h4, h5⟩ := q
      have np : b ≠ a := fun z => by rw [z, h] at h2; cases h2
      exact ⟨b, ys, h1, h2, dpa_mono (same_up h0) _ ys h3, by rw [upd_ne np]; exact h4, h5⟩
    | ja => exact q
    | jo c => exact q
  sep := R.sep
  fr := R.fr
  base := R.base.trans (same_up h0)
  fresh := fun b h1 h2 => by
    have np : b ≠ a := fun z => h2 (by rw [z]; exact he)
    rw [upd_ne np]
    exact R.fresh b h1 h2
  jar := R.jar
  jdom := R.jdom
  jx := R.jx
theorem get_set {α : Type} {l : List α} {i j : Nat} {x : α} : (l.set i x)[j]? = if i = j then (if i < l.length then some x else none) else l[j]? := List.getElem?_set
/-- a store of data -/
theorem Rp.set_da (R : Rp K J n σ H H0 ρ) {i : Nat} {d : D} (h : Dq K H0 v d) : Rp K J n (σ.set i (some v)) H H0 (ρ.set i (.da d)) where
  len := by rw [List.length_set, List.length_set]; exact R.len
  sub := R.sub
  sl := fun j s e => by
    rw [get_set] at e
    by_cases q : i = j
    · rw [if_pos q] at e
      by_cases l : i < ρ.length
      · rw [if_pos l] at e
        have z := Option.some.inj e
        subst z
        refine ⟨v, ?_, h⟩
        rw [get_set, if_pos q, if_pos (by rw [R.len]; exact l)]
      · rw [if_neg l] at e; cases e
    · rw [if_neg q] at e
      have z := R.sl j s e
      have g : (σ.set i (some v))[j]? = σ[j]? := by rw [get_set, if_neg q]
      cases s with
      | un => trivial
      | da d' => obtain ⟨u, h1, h2⟩ := z; exact ⟨u, by rw [g]; exact h1, h2⟩
      | ow ds => obtain ⟨a, xs, h1, h2⟩ := z; exact ⟨a, xs, by rw [g]; exact h1, h2⟩
      | od ds => obtain ⟨a, xs, h1, h2⟩ := z; exact ⟨a, xs, by rw [g]; exact h1, h2⟩
      | ja => exact ⟨by rw [g]; exact z.1, z.2⟩
      | jo c => exact ⟨by rw [g]; exact z.1, z.2⟩
  sep := fun j k ds es hn e1 e2 => by
    rw [get_set] at e1 e2
    have n1 : i ≠ j := fun q => by
      rw [if_pos q] at e1
      split at e1 <;> cases e1
    have n2 : i ≠ k := fun q => by
      rw [if_pos q] at e2
      split at e2 <;> cases e2
    rw [if_neg n1] at e1
    rw [if_neg n2] at e2
    rw [get_set, get_set, if_neg n1, if_neg n2]
    exact R.sep j k ds es hn e1 e2
  fr := R.fr
  base := R.base
  fresh := R.fresh
  jar := R.jar
  jdom := R.jdom
  jx := fun k c e => by
    rw [get_set] at e
    by_cases q : i = k
    · rw [if_pos q] at e
      split at e <;> cases e
    · rw [if_neg q] at e
      exact R.jx k c e
/-- a slot of which nothing is known any more -/
theorem Rp.forget (R : Rp K J n σ H H0 ρ) (i : Nat) (x : Option V) : Rp K J n (σ.set i x) H H0 (ρ.set i .un) where
  len := by rw [List.length_set, List.length_set]; exact R.len
  sub := R.sub
  sl := fun j s e => by
    rw [get_set] at e
    by_cases q : i = j
    · rw [if_pos q] at e
      split at e
      · have z := Option.some.inj e
        subst z
        trivial
      · cases e
    · rw [if_neg q] at e
      have z := R.sl j s e
      have g : (σ.set i x)[j]? = σ[j]? := by rw [get_set, if_neg q]
      cases s with
      | un => trivial
      | da d' => obtain ⟨u, h1, h2⟩ := z; exact ⟨u, by rw [g]; exact h1, h2⟩
      | ow ds => obtain ⟨a, xs, h1, h2⟩ := z; exact ⟨a, xs, by rw [g]; exact h1, h2⟩
      | od ds => obtain ⟨a, xs, h1, h2⟩ := z; exact ⟨a, xs, by rw [g]; exact h1, h2⟩
      | ja => exact ⟨by rw [g]; exact z.1, z.2⟩
      | jo c => exact ⟨by rw [g]; exact z.1, z.2⟩
  sep := fun j k ds es hn e1 e2 => by
    rw [get_set] at e1 e2
    have n1 : i ≠ j := fun q => by
      rw [if_pos q] at e1
      split at e1 <;> cases e1
    have n2 : i ≠ k := fun q => by
      rw [if_pos q] at e2
      split at e2 <;> cases e2
    rw [if_neg n1] at e1
    rw [if_neg n2] at e2
    rw [get_set, get_set, if_neg n1, if_neg n2]
    exact R.sep j k ds es hn e1 e2
  fr := R.fr
  base := R.base
  fresh := R.fresh
  jar := R.jar
  jdom := R.jdom
  jx := fun k c e => by
    rw [get_set] at e
    by_cases q : i = k
    · rw [if_pos q] at e
      split at e <;> cases e
    · rw [if_neg q] at e
      exact R.jx k c e
theorem set_get {α : Type} {l : List α} {i : Nat} {x : α} (h : l[i]? = some x) : l.set i x = l := by
  apply List.ext_getElem?
  intro j
  rw [get_set]
  by_cases q : i = j
  · subst q
    rw [if_pos rfl, if_pos (List.getElem?_eq_some_iff.mp h).1, h]
  · rw [if_neg q]
/-- the slot's own list is moved out -/
theorem Rp.drop (R : Rp K J n σ H H0 ρ) (i : Nat) : Rp K J n σ H H0 (ρ.set i .un) := by
  cases e : σ[i]? with
  | none =>
    have l : ¬ i < ρ.length := by
      have := List.getElem?_eq_none_iff.mp e
      have := R.len
      omega
    rw [List.set_eq_of_length_le (by omega)]
    exact R
  | some x =>
    have z := R.forget i x
    rw [set_get e] at z
    exact z
/-- a store of a new list -/
theorem Rp.set_ow (R : Rp K J n σ H H0 ρ) {i : Nat} {ds : List D} {a : Addr} {xs : List V} (h : H a = some (.lst xs)) (hd : DqAll K H0 xs ds) (h0 : H0 a = none) (he : n.He a = none) (hs : ∀ (j : Nat) (es : List D), ρ[j]? = some (Sl.ow es) → σ[j]? ≠ some (some (V.ref a))) :
    Rp K J n (σ.set i (some (.ref a))) H H0 (ρ.set i (.ow ds)) where
  len := by rw [List.length_set, List.length_set]; exact R.len
  sub := R.sub
  sl := fun j s e => by
    rw [get_set] at e
    by_cases q : i = j
    · rw [if_pos q] at e
      by_cases l : i < ρ.length
      · rw [if_pos l] at e
        have z := Option.some.inj e
        subst z
        refine ⟨a, xs, ?_, h, hd, h0, he⟩
        rw [get_set, if_pos q, if_pos (by rw [R.len]; exact l)]
      · rw [if_neg l] at e; cases e
    · rw [if_neg q] at e
      have z := R.sl j s e
      have g : (σ.set i (some (.ref a)))[j]? = σ[j]? := by rw [get_set, if_neg q]
      cases s with
      | un => trivial
      | da d' => obtain ⟨u, h1, h2⟩ := z; exact ⟨u, by rw [g]; exact h1, h2⟩
      | ow ds => obtain ⟨a, xs, h1, h2⟩ := z; exact ⟨a, xs, by rw [g]; exact h1, h2⟩
      | od ds => obtain ⟨a, xs, h1, h2⟩ := z; exact ⟨a, xs, by rw [g]; exact h1, h2⟩
      | ja => exact ⟨by rw [g]; exact z.1, z.2⟩
      | jo c => exact ⟨by rw [g]; exact z.1, z.2⟩
  sep := fun j k ds es hn e1 e2 => by
    rw [get_set] at e1 e2
    rw [get_set, get_set]
    by_cases n1 : i = j
    · have n2 : ¬ i = k := fun q => hn (n1.symm.trans q)
      rw [if_pos n1] at e1 ⊢
      rw [if_neg n2] at e2 ⊢
      split at e1
      · rename_i l
        rw [if_pos (by rw [R.len]; exact l)]
        exact fun z => hs k es e2 z.symm
      · cases e1
    · rw [if_neg n1] at e1 ⊢
      by_cases n2 : i = k
      · rw [if_pos n2] at e2 ⊢
        split at e2
        · rename_i l
          rw [if_pos (by rw [R.len]; exact l)]
          exact fun z => hs j ds e1 z
        · cases e2
      · rw [if_neg n2] at e2 ⊢
        exact R.sep j k ds es hn e1 e2
  fr := R.fr
  base := R.base
  fresh := R.fresh
  jar := R.jar
  jdom := R.jdom
  jx := fun k c e => by
    rw [get_set] at e
    by_cases q : i = k
    · rw [if_pos q] at e
      split at e <;> cases e
    · rw [if_neg q] at e
      exact R.jx k c e
/-- the def's own list at slot i becomes another one -/
theorem Rp.own_put (R : Rp K J n σ H H0 ρ) {i : Nat} {ds es : List D} {a : Addr} {ys : List V} (e : ρ[i]? = some (.ow ds)) (hσ : σ[i]? = some (some (.ref a))) (hd : DqAll K H0 ys es) :
    Rp K J n σ (upd H a (.lst ys)) H0 (ρ.set i (.ow es)) := by
  obtain ⟨b, xs, h1, h2, h3, h4, h5⟩ := R.sl i _ e
  have q : b = a := by
    rw [h1] at hσ
    cases hσ
    rfl
  subst q
  have R1 : Rp K J n σ (upd H b (.lst ys)) H0 (ρ.set i .un) := by
    have D := R.drop i
    refine ⟨D.len, fun c o z => ?_, fun j s z => ?_, D.sep, fun c o hc z => ?_, D.base, D.fresh, fun z => ?_, D.jdom, D.jx⟩
    · have nb : c ≠ b := ne_of_none z h4
      rw [upd_ne nb]
      exact D.sub c o z
    · have w := D.sl j s z
      cases s with
      | un => trivial
      | da d => exact w
      | ow cs =>
        obtain ⟨c, zs, w1, w2, w3, w4, w5⟩ := w
        have nb : c ≠ b := fun t => by
          rw [get_set] at z
          by_cases ij : i = j
          · rw [if_pos ij] at z
            split at z <;> cases z
          · rw [if_neg ij] at z
            exact R.sep i j ds cs ij e z (by rw [h1, w1, t])
        exact ⟨c, zs, w1, by rw [upd_ne nb]; exact w2, w3, w4, w5⟩
      | od cs =>
        obtain ⟨c, zs, w1, w2, w3, w4, w5⟩ := w
        have nb : c ≠ b := fun t => by rw [t, h2] at w2; cases w2
        exact ⟨c, zs, w1, by rw [upd_ne nb]; exact w2, w3, w4, w5⟩
      | ja => exact w
      | jo c => exact ⟨w.1, w.2.1, w.2.2.loc (fun c hc => upd_ne (fun t => (R.jdom c hc).2 (by rw [t]; exact h5))) (keep_upd h2 rfl)⟩
    · have nb : c ≠ b := ne_of_none z h5
      rw [upd_ne nb]
      exact D.fr c o hc z
    · exact J.loc (fun c hc => upd_ne (fun t => (R.jdom c hc).2 (by rw [t]; exact h5))) (keep_upd h2 rfl) (D.jar z)
  have z := R1.set_ow (i := i) (ds := es) (a := b) (xs := ys) upd_same hd h4 h5 (fun j cs w t => by
    rw [get_set] at w
    by_cases ij : i = j
    · rw [if_pos ij] at w
      split at w <;> cases w
    · rw [if_neg ij] at w
      exact R.sep i j ds cs ij e w (by rw [h1, t]))
  rw [set_get h1, List.set_set] at z
  exact z
theorem Rp.ret (R : Rp K J n σ H H0 ρ) (h : ResOk K n σ ρ H H0 v r) : RetOk K J n H v r := by
  refine ⟨H0, R.sub, R.fr, R.base, R.fresh, R.jar, ?_⟩
  cases r with
  | un => exact h
  | da d => exact h
  | ow ds =>
    obtain ⟨a, xs, h1, h2, h3, h4, h5, _⟩ := h
    exact ⟨a, xs, h1, h2, h3, h4, h5, fun i es e => by simp at e⟩
  | od ds =>
    obtain ⟨a, xs, h1, h2, h3, h4, h5, _⟩ := h
    exact ⟨a, xs, h1, h2, h3, h4, h5, fun i es e => by simp at e⟩
  | ja => exact h
  | jo c => exact h
/-- one object more to be kept -/
def En.keep (n : En) (p : Addr) (o : HO) : En := { n with He := upd n.He p o }
theorem Rp.keep (R : Rp K J n σ H H0 ρ) {p : Addr} {o : HO} (h : H p = some o) (h0 : H0 p = none) (he : n.He p = none) (hs : ∀ (i : Nat) (es : List D), ρ[i]? = some (Sl.ow es) → σ[i]? ≠ some (some (V.ref p))) (hs2 : ∀ (i : Nat) (es : List (Key × D)), ρ[i]? = some (Sl.od es) → σ[i]? ≠ some (some (V.ref p))) : Rp K J (n.keep p o) σ H H0 ρ where
  len := R.len
  sub := R.sub
  sl := fun i s e => by
    have q := R.sl i s e
    cases s with
    | un => trivial
    | da d => exact q
    | ow ds =>
      obtain ⟨a, xs, h1, h2, h3, h4, h5⟩ := q
      have np : a ≠ p := fun z => hs i ds e (by rw [h1, z])
      exact ⟨a, xs, h1, h2, h3, h4, by show upd n.He p o a = none; rw [upd_ne np]; exact h5⟩
    | od ds =>
      obtain ⟨a, xs, h1, h2, h3, h4, h5⟩ := q
      have np : a ≠ p := fun z => hs2 i ds e (by rw [h1, z])
      exact ⟨a, xs, h1, h2, h3, h4, by show upd n.He p o a = none; rw [upd_ne np]; exact h5⟩
    | ja => exact q
    | jo c => exact q
  sep := R.sep
  fr := fun a u ha e => by
    have e' : upd n.He p o a = some u := e
    by_cases q : a = p
    · subst q; rw [upd_same] at e'; rw [h]; exact e'
    · rw [upd_ne q] at e'; exact R.fr a u ha e'
  base := R.base
  fresh := fun a h1 h2 => by
    have h2' : upd n.He p o a ≠ none := h2
    by_cases q : a = p
    · subst q; exact h0
    · rw [upd_ne q] at h2'; exact R.fresh a h1 h2'
  jar := R.jar
  jdom := fun a ha => ⟨(R.jdom a ha).1, by
    show upd n.He p o a ≠ none
    by_cases q : a = p
    · subst q; rw [upd_same]; intro z; cases z
    · rw [upd_ne q]; exact (R.jdom a ha).2⟩
  jx := R.jx
theorem Rp.unkeep {p : Addr} {o : HO} (he : n.He p = none) (jd : ∀ a ∈ n.as, n.H0 a = none ∧ n.He a ≠ none) (R : Rp K J (n.keep p o) σ H H0 ρ) : Rp K J n σ H H0 ρ where
  len := R.len
  sub := R.sub
  sl := fun i s e => by
    have q := R.sl i s e
    cases s with
    | un => trivial
    | da d => exact q
    | ow ds =>
      obtain ⟨a, xs, h1, h2, h3, h4, h5⟩ := q
      have h5' : upd n.He p o a = none := h5
      have np : a ≠ p := fun z => by rw [z, upd_same] at h5'; cases h5'
      rw [upd_ne np] at h5'
      exact ⟨a, xs, h1, h2, h3, h4, h5'⟩
    | od ds =>
      obtain ⟨a, xs, h1, h2, h3, h4, h5⟩ := q
      have h5' : upd n.He p o a = none := h5
      have np : a ≠ p := fun z => by rw [z, upd_same] at h5'; cases h5'
      rw [upd_ne np] at h5'
      exact ⟨a, xs, h1, h2, h3, h4, h5'⟩
    | ja => exact q
    | jo c => exact q
  sep := R.sep
  fr := fun a u ha e => R.fr a u ha (by
    show upd n.He p o a = some u
    rw [upd_ne (ne_of_none e he)]; exact e)
  base := R.base
  fresh := fun a h1 h2 => R.fresh a h1 (by
    show upd n.He p o a ≠ none
    rw [upd_ne (fun q => h2 (by rw [q]; exact he))]; exact h2)
  jar := R.jar
  jdom := jd
  jx := R.jx
theorem Rp.kept {p : Addr} {o : HO} (hp : p ∉ n.as) (R : Rp K J (n.keep p o) σ H H0 ρ) : H p = some o := R.fr p o hp (by show upd n.He p o p = some o; exact upd_same)
theorem Rp.kept0 {p : Addr} {o : HO} (h0 : n.H0 p = none) (R : Rp K J (n.keep p o) σ H H0 ρ) : H0 p = none := R.fresh p h0 (by show upd n.He p o p ≠ none; rw [upd_same]; intro z; cases z)
theorem Rp.od_lst (R : Rp K J n σ H H0 ρ) {a : Addr} {xs : List V} (h : H a = some (.lst xs)) : ∀ (i : Nat) (es : List (Key × D)), ρ[i]? = some (Sl.od es) → σ[i]? ≠ some (some (V.ref a)) := fun i es e z => by
  obtain ⟨b, ys, h1, h2, _⟩ := R.sl i _ e
  rw [h1] at z
  cases z
  rw [h] at h2
  cases h2
theorem Rp.od_new (R : Rp K J n σ H H0 ρ) {a : Addr} (h : H a = none) : ∀ (i : Nat) (es : List (Key × D)), ρ[i]? = some (Sl.od es) → σ[i]? ≠ some (some (V.ref a)) := fun i es e z => by
  obtain ⟨b, ys, h1, h2, _⟩ := R.sl i _ e
  rw [h1] at z
  cases z
  rw [h] at h2
  cases h2
theorem Rp.ow_dk (R : Rp K J n σ H H0 ρ) {a : Addr} {kvs : List (Key × V)} (h : H a = some (.dK kvs)) : ∀ (i : Nat) (es : List D), ρ[i]? = some (Sl.ow es) → σ[i]? ≠ some (some (V.ref a)) := fun i es e z => by
  obtain ⟨b, ys, h1, h2, _⟩ := R.sl i _ e
  rw [h1] at z
  cases z
  rw [h] at h2
  cases h2
/-- a store of a new dict -/
theorem Rp.set_od (R : Rp K J n σ H H0 ρ) {i : Nat} {ds : List (Key × D)} {a : Addr} {xs : List V} (h : H a = some (.dK ((ds.map (·.1)).zip xs))) (hd : DqAll K H0 xs (ds.map (·.2))) (h0 : H0 a = none) (he : n.He a = none) :
    Rp K J n (σ.set i (some (.ref a))) H H0 (ρ.set i (.od ds)) where
  len := by rw [List.length_set, List.length_set]; exact R.len
  sub := R.sub
  sl := fun j s e => by
    rw [get_set] at e
    by_cases q : i = j
    · rw [if_pos q] at e
      by_cases l : i < ρ.length
      · rw [if_pos l] at e
        have z := Option.some.inj e
        subst z
        refine ⟨a, xs, ?_, h, hd, h0, he⟩
        rw [get_set, if_pos q, if_pos (by rw [R.len]; exact l)]
      · rw [if_neg l] at e; cases e
    · rw [if_neg q] at e
      have z := R.sl j s e
      have g : (σ.set i (some (.ref a)))[j]? = σ[j]? := by rw [get_set, if_neg q]
      cases s with
      | un => trivial
      | da d' => obtain ⟨u, h1, h2⟩ := z; exact ⟨u, by rw [g]; exact h1, h2⟩
      | ow ds => obtain ⟨a, xs, h1, h2⟩ := z; exact ⟨a, xs, by rw [g]; exact h1, h2⟩
      | od ds => obtain ⟨a, xs, h1, h2⟩ := z; exact ⟨a, xs, by rw [g]; exact h1, h2⟩
      | ja => exact ⟨by rw [g]; exact z.1, z.2⟩
      | jo c => exact ⟨by rw [g]; exact z.1, z.2⟩
  sep := fun j k ds es hn e1 e2 => by
    rw [get_set] at e1 e2
    rw [get_set, get_set]
    by_cases n1 : i = j
    · rw [if_pos n1] at e1
      split at e1 <;> cases e1
    · rw [if_neg n1] at e1 ⊢
      by_cases n2 : i = k
      · rw [if_pos n2] at e2
        split at e2 <;> cases e2
      · rw [if_neg n2] at e2 ⊢
        exact R.sep j k ds es hn e1 e2
  fr := R.fr
  base := R.base
  fresh := R.fresh
  jar := R.jar
  jdom := R.jdom
  jx := fun k c e => by
    rw [get_set] at e
    by_cases q : i = k
    · rw [if_pos q] at e
      split at e <;> cases e
    · rw [if_neg q] at e
      exact R.jx k c e
/-- no other slot holds a dict of the def's own -/
def soleOd : List Sl → Nat → Bool
  | [], _ => true
  | .od _ :: ρ, 0 => soleOd ρ ρ.length
  | _ :: ρ, 0 => soleOd ρ ρ.length
  | .od _ :: _, _ + 1 => false
  | _ :: ρ, i + 1 => soleOd ρ i
theorem soleOd_at : ∀ {ρ : List Sl} {i j : Nat} {es : List (Key × D)}, soleOd ρ i = true → ρ[j]? = some (.od es) → j = i
  | [], _, _, _, _, e => by simp at e
  | .od _ :: ρ, 0, 0, _, h, e => rfl
  | .od _ :: ρ, 0, j + 1, _, h, e => by
    have := soleOd_at (ρ := ρ) (i := ρ.length) (j := j) h e
    have := (List.getElem?_eq_some_iff.mp (show ρ[j]? = some _ from e)).1
    omega
  | .od _ :: ρ, i + 1, j, _, h, e => by cases h
  | .un :: ρ, 0, 0, _, h, e => by cases e
  | .da _ :: ρ, 0, 0, _, h, e => by cases e
  | .ow _ :: ρ, 0, 0, _, h, e => by cases e
  | .ja :: ρ, 0, 0, _, h, e => by cases e
  | .jo _ :: ρ, 0, 0, _, h, e => by cases e
  | .un :: ρ, 0, j + 1, _, h, e | .da _ :: ρ, 0, j + 1, _, h, e | .ow _ :: ρ, 0, j + 1, _, h, e | .ja :: ρ, 0, j + 1, _, h, e | .jo _ :: ρ, 0, j + 1, _, h, e => by
    have := soleOd_at (ρ := ρ) (i := ρ.length) (j := j) h e
    have := (List.getElem?_eq_some_iff.mp (show ρ[j]? = some _ from e)).1
    omega
  | .un :: ρ, i + 1, 0, _, h, e | .da _ :: ρ, i + 1, 0, _, h, e | .ow _ :: ρ, i + 1, 0, _, h, e | .ja :: ρ, i + 1, 0, _, h, e | .jo _ :: ρ, i + 1, 0, _, h, e => by cases e
  | .un :: ρ, i + 1, j + 1, _, h, e | .da _ :: ρ, i + 1, j + 1, _, h, e | .ow _ :: ρ, i + 1, j + 1, _, h, e | .ja :: ρ, i + 1, j + 1, _, h, e | .jo _ :: ρ, i + 1, j + 1, _, h, e => by
    rw [soleOd_at (ρ := ρ) (i := i) (j := j) h e]
/-- the def's own dict at slot i becomes another one -/
theorem Rp.od_put (R : Rp K J n σ H H0 ρ) {i : Nat} {ds es : List (Key × D)} {a : Addr} {ys : List V} (e : ρ[i]? = some (.od ds)) (so : soleOd ρ i = true) (hσ : σ[i]? = some (some (.ref a))) (hd : DqAll K H0 ys (es.map (·.2))) :
    Rp K J n σ (upd H a (.dK ((es.map (·.1)).zip ys))) H0 (ρ.set i (.od es)) := by
  obtain ⟨b, xs, h1, h2, h3, h4, h5⟩ := R.sl i _ e
  have q : b = a := by
    rw [h1] at hσ
    cases hσ
    rfl
  subst q
  have R1 : Rp K J n σ (upd H b (.dK ((es.map (·.1)).zip ys))) H0 (ρ.set i .un) := by
    have D := R.drop i
    refine ⟨D.len, fun c o z => ?_, fun j s z => ?_, D.sep, fun c o hc z => ?_, D.base, D.fresh, fun z => ?_, D.jdom, D.jx⟩
    · have nb : c ≠ b := ne_of_none z h4
      rw [upd_ne nb]
      exact D.sub c o z
    · have w := D.sl j s z
      cases s with
      | un => trivial
      | da d => exact w
      | ow cs =>
        obtain ⟨c, zs, w1, w2, w3, w4, w5⟩ := w
        have nb : c ≠ b := fun t => by rw [t, h2] at w2; cases w2
        exact ⟨c, zs, w1, by rw [upd_ne nb]; exact w2, w3, w4, w5⟩
      | od cs =>
        exfalso
        rw [get_set] at z
        by_cases ij : i = j
        · rw [if_pos ij] at z
          split at z <;> cases z
        · rw [if_neg ij] at z
          exact ij (soleOd_at so z).symm
      | ja => exact w
      | jo c => exact ⟨w.1, w.2.1, w.2.2.loc (fun c hc => upd_ne (fun t => (R.jdom c hc).2 (by rw [t]; exact h5))) (keep_upd h2 rfl)⟩
    · have nb : c ≠ b := ne_of_none z h5
      rw [upd_ne nb]
      exact D.fr c o hc z
    · exact J.loc (fun c hc => upd_ne (fun t => (R.jdom c hc).2 (by rw [t]; exact h5))) (keep_upd h2 rfl) (D.jar z)
  have z := R1.set_od (i := i) (ds := es) (a := b) (xs := ys) upd_same hd h4 h5
  rw [set_get h1, List.set_set] at z
  exact z
end
end Zd

set_option Elab.async false
set_option linter.all false
set_option maxRecDepth 100000
set_option maxHeartbeats 4000000
namespace Zd
open PySem PySem.Spec PyProof.Rows L2

/-! ### judgements: an expression with any result, with data, as a test; argument lists -/
abbrev QR := List Sl → (Sl → List Sl → Prop) → Prop
abbrev QD := List Sl → (D → List Sl → Prop) → Prop
abbrev QT := List Sl → (Bool → List Sl → Prop) → Prop
abbrev QL := List Sl → (List D → List Sl → Prop) → Prop
def tR (K : PySem.W.Frag) (J : Jr) (q : QR) : TE := fun σ H Q => ∃ (n : En) (H0 : Hp) (ρ : List Sl) (P : Sl → List Sl → Prop), Rp K J n σ H H0 ρ ∧ q ρ P ∧
  ∀ v H' H0' r ρ', Rp K J n σ H' H0' ρ' → Same H0 H0' → ResOk K n σ ρ' H' H0' v r → P r ρ' → Q v H'
def tD (K : PySem.W.Frag) (J : Jr) (q : QD) : TE := fun σ H Q => ∃ (n : En) (H0 : Hp) (ρ : List Sl) (P : D → List Sl → Prop), Rp K J n σ H H0 ρ ∧ q ρ P ∧
  ∀ v H' H0' d ρ', Rp K J n σ H' H0' ρ' → Same H0 H0' → Dq K H0' v d → P d ρ' → Q v H'
def tT (K : PySem.W.Frag) (J : Jr) (q : QT) : TT := fun σ H Q => ∃ (n : En) (H0 : Hp) (ρ : List Sl) (P : Bool → List Sl → Prop), Rp K J n σ H H0 ρ ∧ q ρ P ∧
  ∀ b H' H0' ρ', Rp K J n σ H' H0' ρ' → Same H0 H0' → P b ρ' → Q b H'
def tL (K : PySem.W.Frag) (J : Jr) (m : Nat) (q : QL) : TA := fun σ H Q => ∃ (n : En) (H0 : Hp) (ρ : List Sl) (P : List D → List Sl → Prop), Rp K J n σ H H0 ρ ∧ q ρ P ∧
  ∀ vs H' H0' ds ρ', Rp K J n σ H' H0' ρ' → Same H0 H0' → DqAll K H0' vs ds → ds.length = m → P ds ρ' → Q vs H'
/-- what is looked at: data, or a list that stands (the def's own, or a new one) -/
def Vw (K : PySem.W.Frag) (H H0 : Hp) (v : V) (d : D) : Prop := Dq K H0 v d ∨ ∃ a xs ds, d = .list ds ∧ v = .ref a ∧ H a = some (.lst xs) ∧ DqAll K H0 xs ds
def tV (K : PySem.W.Frag) (J : Jr) (q : QD) : TE := fun σ H Q => ∃ (n : En) (H0 : Hp) (ρ : List Sl) (P : D → List Sl → Prop), Rp K J n σ H H0 ρ ∧ q ρ P ∧
  ∀ v H' H0' d ρ', Rp K J n σ H' H0' ρ' → Same H0 H0' → Vw K H' H0' v d → P d ρ' → Q v H'
theorem Vw.tup {K : PySem.W.Frag} {H H0 : Hp} {v : V} {ds : List D} (h : Vw K H H0 v (.tuple ds)) : ∃ a xs, v = .ref a ∧ SqT K H0 a xs ∧ DqAll K H0 xs ds := by
  rcases h with h | ⟨a, xs, es, h, _⟩
  · exact dp_tup h
  · cases h
theorem Vw.lst {K : PySem.W.Frag} {H H0 : Hp} {v : V} {ds : List D} (e : Same H0 H) (h : Vw K H H0 v (.list ds)) : ∃ a xs, v = .ref a ∧ SqL K H a xs ∧ DqAll K H0 xs ds := by
  rcases h with h | ⟨a, xs, es, h, rfl, h1, h2⟩
  · obtain ⟨a, xs, h1, h2, h3⟩ := dp_lst h
    exact ⟨a, xs, h1, e.seq h2, h3⟩
  · cases h
    exact ⟨a, xs, rfl, SqL.of h1, h2⟩
theorem Vw.dp {K : PySem.W.Frag} {H H0 : Hp} {v : V} {d : D} (h : Vw K H H0 v d) (hd : ∀ ds, d ≠ .list ds) : Dq K H0 v d := by
  rcases h with h | ⟨a, xs, es, h, _⟩
  · exact h
  · exact absurd h (hd es)
section
variable {X : Cx} {J : Jr} {e a b c : Expr} {es : List Expr} {pos : Pos}
theorem pe_mono {t t' : TE} (h : PE X e t) (i : ∀ σ H Q, t' σ H Q → t σ H Q) : PE X e t' := ⟨fun pins s σ H Q I w => h.run pins s σ H Q I (i _ _ _ w)⟩
theorem pt_mono {t t' : TT} (h : PT X e t) (i : ∀ σ H Q, t' σ H Q → t σ H Q) : PT X e t' := ⟨fun pins s σ H Q I w => h.run pins s σ H Q I (i _ _ _ w)⟩
theorem pa_mono {t t' : TA} (h : PA X es t) (i : ∀ σ H Q, t' σ H Q → t σ H Q) : PA X es t' := ⟨fun pos pins s σ H Q I w => h.run pos pins s σ H Q I (i _ _ _ w)⟩
abbrev PR (J : Jr) (X : Cx) (e : Expr) (q : QR) : Prop := PE X e (tR X.K J q)
abbrev PD (J : Jr) (X : Cx) (e : Expr) (q : QD) : Prop := PE X e (tD X.K J q)
abbrev PV (J : Jr) (X : Cx) (e : Expr) (q : QD) : Prop := PE X e (tV X.K J q)
abbrev PB (J : Jr) (X : Cx) (e : Expr) (q : QT) : Prop := PT X e (tT X.K J q)
abbrev PL (J : Jr) (X : Cx) (es : List Expr) (m : Nat) (q : QL) : Prop := PA X es (tL X.K J m q)
/-- data as a result -/
def qRD (q : QD) : QR := fun ρ P => q ρ fun d ρ' => P (.da d) ρ'
theorem pr_of {q : QD} (h : PD J X e q) : PR J X e (qRD q) := pe_mono h fun σ H Q ⟨n, H0, ρ, P, R, w, k⟩ =>
  ⟨n, H0, ρ, _, R, w, fun v H' H0' d ρ' R' S' hd hp => k v H' H0' (.da d) ρ' R' S' hd hp⟩
/-- any result as data: a new list is frozen -/
def asD (r : Sl) (P : D → Prop) : Prop := match r with
  | .da d => P d
  | .ow ds => P (.list ds)
  | _ => False
def qDR (q : QR) : QD := fun ρ P => q ρ fun r ρ' => asD r fun d => P d ρ'
theorem pd_of {q : QR} (h : PR J X e q) : PD J X e (qDR q) := pe_mono h fun σ H Q ⟨n, H0, ρ, P, R, w, k⟩ => by
  refine ⟨n, H0, ρ, _, R, w, fun v H' H0' r ρ' R' S' hr hp => ?_⟩
  cases r with
  | un => exact hp.elim
  | da d => exact k v H' H0' d ρ' R' S' hr hp
  | ow ds =>
    obtain ⟨a, xs, rfl, h1, h2, h3, h4, h5⟩ := hr
    exact k _ H' _ (.list ds) ρ' (R'.freeze h1 h3 h4 h5) (S'.trans (same_up h3)) (.lst (SqL.of upd_same) (dpa_mono (same_up h3) ds xs h2)) hp
  | od ds => exact hp.elim
  | ja => exact hp.elim
  | jo c => exact hp.elim
/-- any result, looked at -/
theorem pv_of {q : QR} (h : PR J X e q) : PV J X e (qDR q) := pe_mono h fun σ H Q ⟨n, H0, ρ, P, R, w, k⟩ => by
  refine ⟨n, H0, ρ, _, R, w, fun v H' H0' r ρ' R' S' hr hp => ?_⟩
  cases r with
  | un => exact hp.elim
  | da d => exact k v H' H0' d ρ' R' S' (.inl hr) hp
  | ow ds =>
    obtain ⟨a, xs, rfl, h1, h2, h3, h4, h5⟩ := hr
    exact k _ H' H0' (.list ds) ρ' R' S' (.inr ⟨a, xs, ds, rfl, rfl, h1, h2⟩) hp
  | od ds => exact hp.elim
  | ja => exact hp.elim
  | jo c => exact hp.elim
theorem pv_ofD {q : QD} (h : PD J X e q) : PV J X e q := pe_mono h fun σ H Q ⟨n, H0, ρ, P, R, w, k⟩ =>
  ⟨n, H0, ρ, P, R, w, fun v H' H0' d ρ' R' S' hd hp => k v H' H0' d ρ' R' S' (.inl hd) hp⟩

/-! ### names -/
def seeD (s : Option Sl) (P : D → Prop) : Prop := match s with
  | some (.da d) => P d
  | some (.ow ds) => P (.list ds)
  | _ => False
/-- the slot's list is data from here on -/
def frz (ρ : List Sl) (i : Nat) : List Sl := match ρ[i]? with
  | some (.ow ds) => ρ.set i (.da (.list ds))
  | _ => ρ
def qLook (i : Nat) : QD := fun ρ P => seeD ρ[i]? fun d => P d ρ
def qVar (i : Nat) : QD := fun ρ P => seeD ρ[i]? fun d => P d (frz ρ i)
def qMove (i : Nat) : QR := fun ρ P => match ρ[i]? with
  | some (.da d) => P (.da d) ρ
  | some (.ow ds) => P (.ow ds) (ρ.set i .un)
  | _ => False
theorem Rp.frz1 {K : PySem.W.Frag} {n : En} {σ : L2.St} {H H0 : Hp} {ρ : List Sl} (R : Rp K J n σ H H0 ρ) (i : Nat) : ∃ H0', Same H0 H0' ∧ Rp K J n σ H H0' (frz ρ i) ∧
    ∀ d, seeD ρ[i]? (fun x => x = d) → ∃ v, σ[i]? = some (some v) ∧ Dq K H0' v d ∧ (frz ρ i)[i]? = some (.da d) := by
  unfold frz
  cases e : ρ[i]? with
  | none => exact ⟨H0, .refl _, R, fun d h => h.elim⟩
  | some s =>
    cases s with
    | un => exact ⟨H0, .refl _, R, fun d h => h.elim⟩
    | ja => exact ⟨H0, .refl _, R, fun d h => h.elim⟩
    | jo c => exact ⟨H0, .refl _, R, fun d h => h.elim⟩
    | da d =>
      obtain ⟨v, h1, h2⟩ := R.sl i _ e
      exact ⟨H0, .refl _, R, fun d' h => by cases (show d = d' from h); exact ⟨v, h1, h2, e⟩⟩
    | ow ds =>
      obtain ⟨a, xs, h1, h2, h3, h4, h5⟩ := R.sl i _ e
      have R1 := (R.drop i).freeze h2 h4 h5 (fun j es w t => by
        rw [get_set] at w
        by_cases ij : i = j
        · rw [if_pos ij] at w
          split at w <;> cases w
        · rw [if_neg ij] at w
          exact R.sep i j ds es ij e w (by rw [h1, t]))
      have hd : Dq K (upd H0 a (.lst xs)) (.ref a) (.list ds) := .lst (SqL.of upd_same) (dpa_mono (same_up h4) ds xs h3)
      have R2 := R1.set_da (i := i) hd
      rw [set_get h1, List.set_set] at R2
      refine ⟨_, same_up h4, R2, fun d h => ?_⟩
      cases (show PyData.list ds = d from h)
      refine ⟨.ref a, h1, hd, ?_⟩
      rw [get_set, if_pos rfl, if_pos (List.getElem?_eq_some_iff.mp e).1]
    | od ds => exact ⟨H0, .refl _, R, fun d h => h.elim⟩
theorem pd_var {i : Nat} (h : PE X e (tVar i)) : PD J X e (qVar i) := pe_mono h fun σ H Q ⟨n, H0, ρ, P, R, w, k⟩ => by
  obtain ⟨H0', S', R', f⟩ := R.frz1 i
  have w' : seeD ρ[i]? fun d => P d (frz ρ i) := w
  cases e : ρ[i]? with
  | none => rw [e] at w'; exact w'.elim
  | some s =>
    rw [e] at w' f
    cases s with
    | un => exact w'.elim
    | ja => exact w'.elim
    | jo c => exact w'.elim
    | da d =>
      obtain ⟨v, h1, h2, _⟩ := f d rfl
      exact ⟨v, h1, k v H H0' d _ R' S' h2 w'⟩
    | ow ds =>
      obtain ⟨v, h1, h2, _⟩ := f _ rfl
      exact ⟨v, h1, k v H H0' _ _ R' S' h2 w'⟩
    | od ds => exact w'.elim
theorem pv_var {i : Nat} (h : PE X e (tVar i)) : PV J X e (qLook i) := pe_mono h fun σ H Q ⟨n, H0, ρ, P, R, w, k⟩ => by
  have w' : seeD ρ[i]? fun d => P d ρ := w
  cases e : ρ[i]? with
  | none => rw [e] at w'; exact w'.elim
  | some s =>
    rw [e] at w'
    have q := R.sl i s e
    cases s with
    | un => exact w'.elim
    | ja => exact w'.elim
    | jo c => exact w'.elim
    | da d =>
      obtain ⟨v, h1, h2⟩ := q
      exact ⟨v, h1, k v H H0 d ρ R (.refl _) (.inl h2) w'⟩
    | ow ds =>
      obtain ⟨a, xs, h1, h2, h3, h4, h5⟩ := q
      exact ⟨.ref a, h1, k _ H H0 _ ρ R (.refl _) (.inr ⟨a, xs, ds, rfl, rfl, h2, h3⟩) w'⟩
    | od ds => exact w'.elim
theorem pr_var {i : Nat} (h : PE X e (tVar i)) : PR J X e (qMove i) := pe_mono h fun σ H Q ⟨n, H0, ρ, P, R, w, k⟩ => by
  unfold qMove at w
  cases e : ρ[i]? with
  | none => rw [e] at w; exact w.elim
  | some s =>
    rw [e] at w
    have q := R.sl i s e
    cases s with
    | un => exact w.elim
    | ja => exact w.elim
    | jo c => exact w.elim
    | da d =>
      obtain ⟨v, h1, h2⟩ := q
      exact ⟨v, h1, k v H H0 (.da d) ρ R (.refl _) h2 w⟩
    | ow ds =>
      obtain ⟨a, xs, h1, h2, h3, h4, h5⟩ := q
      refine ⟨.ref a, h1, k _ H H0 (.ow ds) _ (R.drop i) (.refl _) ⟨a, xs, rfl, h2, h3, h4, h5, fun j es w t => ?_⟩ w⟩
      rw [get_set] at w
      by_cases ij : i = j
      · rw [if_pos ij] at w
        split at w <;> cases w
      · rw [if_neg ij] at w
        exact R.sep i j ds es ij e w (by rw [h1, t])
    | od ds => exact w.elim
def qC (d : D) : QD := fun ρ P => P d ρ
theorem pd_c {v : V} {d : D} (h : PE X e (tC v)) (hd : ∀ H0, Dq X.K H0 v d) : PD J X e (qC d) := pe_mono h fun σ H Q ⟨n, H0, ρ, P, R, w, k⟩ => k v H H0 d ρ R (.refl _) (hd H0) w
theorem pd_int {i : Int} {j : Nat} : PD J X (.Constant (.int i) j pos) (qC (.int i)) := pd_c pe_int fun _ => .int _
theorem pd_str {x : Str} {j : Nat} : PD J X (.Constant (.str x) j pos) (qC (.str x)) := pd_c pe_str fun _ => .str _
theorem pd_bl {x : Bool} {j : Nat} : PD J X (.Constant (.bool x) j pos) (qC (.bool x)) := pd_c pe_bl fun _ => .bl _
theorem pd_non {j : Nat} : PD J X (.Constant .none j pos) (qC .none) := pd_c pe_non fun _ => .non

/-! ### two-place operations -/
abbrev DOp := D → D → (Sl → Prop) → Prop
theorem Vw.of {K : PySem.W.Frag} {H H0 : Hp} {v : V} {d : D} (h : Dq K H0 v d) : Vw K H H0 v d := .inl h
theorem Vw.at {K : PySem.W.Frag} {H H0 : Hp} {v : V} {d : D} (e : Same H0 H) (h : Vw K H H0 v d) : Dq K H v d := by
  rcases h with h | ⟨a, xs, es, rfl, rfl, h1, h2⟩
  · exact dp_mono e d v h
  · exact .lst (SqL.of h1) (dpa_mono e es xs h2)
/-- r does to values what f does to data -/
def OpIs (K : PySem.W.Frag) (J : Jr) (r : R2) (f : DOp) : Prop := ∀ n σ H H0 ρ x y d e P (Q : VK), Rp K J n σ H H0 ρ → Vw K H H0 x d → Vw K H H0 y e → f d e P →
  (∀ v H' H0' s, Rp K J n σ H' H0' ρ → Same H0 H0' → ResOk K n σ ρ H' H0' v s → P s → Q v H') → r x y H Q
def DopOk (J : Jr) (X : Cx) (o : Value → Value → Sem Value) (f : DOp) : Prop := ∃ r, OpR X o r ∧ OpIs X.K J r f
def qBin (f : DOp) (qa qb : QD) : QR := fun ρ P => qa ρ fun d ρ1 => qb ρ1 fun e ρ2 => f d e fun s => P s ρ2
/-- the left one is a name: it is looked at when the right one is known -/
def qBinN (f : DOp) (i : Nat) (qb : QD) : QR := fun ρ P => qb ρ fun e ρ2 => seeD ρ2[i]? fun d => f d e fun s => P s ρ2
theorem Rp.see {K : PySem.W.Frag} {n : En} {σ : L2.St} {H H0 : Hp} {ρ : List Sl} (R : Rp K J n σ H H0 ρ) {i : Nat} {P : D → Prop} (h : seeD ρ[i]? P) : ∃ v d, σ[i]? = some (some v) ∧ Vw K H H0 v d ∧ P d := by
  cases e : ρ[i]? with
  | none => rw [e] at h; exact h.elim
  | some s =>
    rw [e] at h
    have q := R.sl i s e
    cases s with
    | un => exact h.elim
    | ja => exact h.elim
    | jo c => exact h.elim
    | da d =>
      obtain ⟨v, h1, h2⟩ := q
      exact ⟨v, d, h1, .inl h2, h⟩
    | ow ds =>
      obtain ⟨a, xs, h1, h2, h3, h4, h5⟩ := q
      exact ⟨_, _, h1, .inr ⟨a, xs, ds, rfl, rfl, h2, h3⟩, h⟩
    | od ds => exact h.elim
/-- a reading of a name whose slot has something -/
def hasV (σ : L2.St) (i : Nat) : Prop := ∃ v, σ[i]? = some (some v)
theorem bin_mono {r : R2} {f : DOp} {qa qb : QD} (hr : OpIs X.K J r f) : ∀ σ H Q, tR X.K J (qBin f qa qb) σ H Q → tOp r (tD X.K J qa) (tV X.K J qb) σ H Q := fun σ H Q ⟨n, H0, ρ, P, R, w, k⟩ =>
  ⟨n, H0, ρ, _, R, w, fun x H1 H01 d ρ1 R1 S1 hd w1 => ⟨n, H01, ρ1, _, R1, w1, fun y H2 H02 e ρ2 R2 S2 he w2 =>
    hr n σ H2 H02 ρ2 x y d e _ Q R2 (.of (dp_mono S2 d x hd)) he w2 fun v H' H0' s R' S' hs hp => k v H' H0' s ρ2 R' ((S1.trans S2).trans S') hs hp⟩⟩
theorem binN_mono {r : R2} {f : DOp} {i : Nat} {qb : QD} (hr : OpIs X.K J r f) : ∀ σ H Q, hasV σ i → tR X.K J (qBinN f i qb) σ H Q → tOp r (tVar i) (tV X.K J qb) σ H Q := fun σ H Q hv ⟨n, H0, ρ, P, R, w, k⟩ => by
  obtain ⟨x, hx⟩ := hv
  refine ⟨x, hx, n, H0, ρ, _, R, w, fun y H2 H02 e ρ2 R2 S2 he w2 => ?_⟩
  obtain ⟨x', d, h1, h2, h3⟩ := R2.see w2
  rw [hx] at h1
  cases h1
  exact hr n σ H2 H02 ρ2 x y d e _ Q R2 h2 he h3 fun v H' H0' s R' S' hs hp => k v H' H0' s ρ2 R' (S2.trans S') hs hp
/-- the slot is known ahead, too -/
def known (ρ : List Sl) (i : Nat) : Prop := match ρ[i]? with
  | some (.da _) => True
  | some (.ow _) => True
  | _ => False
theorem Rp.hasV {K : PySem.W.Frag} {n : En} {σ : L2.St} {H H0 : Hp} {ρ : List Sl} (R : Rp K J n σ H H0 ρ) {i : Nat} (h : known ρ i) : hasV σ i := by
  unfold known at h
  cases e : ρ[i]? with
  | none => rw [e] at h; exact h.elim
  | some s =>
    rw [e] at h
    have q := R.sl i s e
    cases s with
    | un => exact h.elim
    | ja => exact h.elim
    | jo c => exact h.elim
    | da d => obtain ⟨v, h1, _⟩ := q; exact ⟨v, h1⟩
    | ow ds => obtain ⟨a, xs, h1, _⟩ := q; exact ⟨_, h1⟩
    | od ds => exact h.elim
/-- as qBinN, and the slot is known ahead -/
def qBinM (f : DOp) (i : Nat) (qb : QD) : QR := fun ρ P => known ρ i ∧ qBinN f i qb ρ P
theorem binM_mono {r : R2} {f : DOp} {i : Nat} {qb : QD} (hr : OpIs X.K J r f) : ∀ σ H Q, tR X.K J (qBinM f i qb) σ H Q → tOp r (tVar i) (tV X.K J qb) σ H Q := fun σ H Q ⟨n, H0, ρ, P, R, w, k⟩ =>
  binN_mono hr σ H Q (R.hasV w.1) ⟨n, H0, ρ, P, R, w.2, k⟩
theorem pr_bin {op : Operator} {f : DOp} {qa qb : QD} (ho : DopOk J X (binaryOp op) f) (ha : PD J X a qa) (hb : PV J X b qb) : PR J X (.BinOp a op b pos) (qBin f qa qb) := by
  obtain ⟨r, h1, h2⟩ := ho
  exact pe_mono (pe_op h1 ha hb) (bin_mono h2)
theorem pr_binN {op : Operator} {f : DOp} {i : Nat} {qb : QD} (ho : DopOk J X (binaryOp op) f) (ha : PE X a (tVar i)) (hb : PV J X b qb) : PR J X (.BinOp a op b pos) (qBinM f i qb) := by
  obtain ⟨r, h1, h2⟩ := ho
  exact pe_mono (pe_op h1 ha hb) (binM_mono h2)
theorem pr_cmp {op : CmpOp} {f : DOp} {qa qb : QD} (ho : DopOk J X (compareOp op) f) (hm : behindInMarks op b = false) (ha : PD J X a qa) (hb : PV J X b qb) : PR J X (.Compare a [op] [b] pos) (qBin f qa qb) := by
  obtain ⟨r, h1, h2⟩ := ho
  exact pe_mono (pe_cmpR h1 ha hb hm) (bin_mono h2)
theorem pr_cmpN {op : CmpOp} {f : DOp} {i : Nat} {qb : QD} (ho : DopOk J X (compareOp op) f) (hm : behindInMarks op b = false) (ha : PE X a (tVar i)) (hb : PV J X b qb) : PR J X (.Compare a [op] [b] pos) (qBinM f i qb) := by
  obtain ⟨r, h1, h2⟩ := ho
  exact pe_mono (pe_cmpR h1 ha hb hm) (binM_mono h2)
/-- a truth value of data -/
def truD : D → Option Bool
  | .none => some false
  | .bool b => some b
  | .int i => some (i != 0)
  | .str x => some ((x.length : Int) != 0)
  | .list ds => some !ds.isEmpty
  | .tuple ds => some !ds.isEmpty
  | .dict _ => Option.none
def isB (r : Sl) (P : Bool → Prop) : Prop := match r with
  | .da (.bool b) => P b
  | _ => False
def qTst (q : QR) : QT := fun ρ P => q ρ fun r ρ' => isB r fun b => P b ρ'
theorem tst_mono {q : QR} {t : TE} (hm : ∀ σ H Q, tR X.K J q σ H Q → t σ H Q) : ∀ σ H Q, tT X.K J (qTst q) σ H Q → tTest t σ H Q := fun σ H Q ⟨n, H0, ρ, P, R, w, k⟩ => by
  refine hm σ H _ ⟨n, H0, ρ, _, R, w, fun v H' H0' s ρ' R' S' hs hp => ?_⟩
  cases s with
  | un => exact hp.elim
  | ow ds => exact hp.elim
  | od ds => exact hp.elim
  | ja => exact hp.elim
  | jo c => exact hp.elim
  | da d =>
    cases d with
    | bool b =>
      have e := dp_bool hs
      subst e
      exact ⟨b, rfl, k b H' H0' ρ' R' S' hp⟩
    | _ => exact hp.elim
theorem pb_cmp {op : CmpOp} {f : DOp} {qa qb : QD} (ho : DopOk J X (compareOp op) f) (hm : behindInMarks op b = false) (ha : PD J X a qa) (hb : PV J X b qb) : PB J X (.Compare a [op] [b] pos) (qTst (qBin f qa qb)) := by
  obtain ⟨r, h1, h2⟩ := ho
  exact pt_mono (pt_cmpR h1 ha hb hm) (tst_mono (bin_mono h2))
theorem pb_cmpN {op : CmpOp} {f : DOp} {i : Nat} {qb : QD} (ho : DopOk J X (compareOp op) f) (hm : behindInMarks op b = false) (ha : PE X a (tVar i)) (hb : PV J X b qb) : PB J X (.Compare a [op] [b] pos) (qTst (qBinM f i qb)) := by
  obtain ⟨r, h1, h2⟩ := ho
  exact pt_mono (pt_cmpR h1 ha hb hm) (tst_mono (binM_mono h2))
/-- an expression that is no comparison as a test -/
def truP (d : D) (P : Bool → Prop) : Prop := match d with
  | .bool b => P b
  | .str x => x.length ≤ sizeLine ∧ P ((x.length : Int) != 0)
  | .none => P false
  | .int i => P (i != 0)
  | .list ds => P (!ds.isEmpty)
  | .tuple ds => P (!ds.isEmpty)
  | .dict _ => False
def qTru (q : QD) : QT := fun ρ P => q ρ fun d ρ' => truP d fun b => P b ρ'
theorem dpa_empty {K : PySem.W.Frag} {H : Hp} {ds : List D} {xs : List V} (h : DqAll K H xs ds) : ds.isEmpty = xs.isEmpty := by
  cases h <;> rfl
theorem pb_tru {q : QD} (ha : PD J X e q) (he : ∀ whole, isTrue e X.env whole = (do let v ← whole; standAt e.pos; holding [v] (truthy v))) : PB J X e (qTru q) := by
  refine pt_mono (pt_truth ha he) fun σ H Q ⟨n, H0, ρ, P, R, w, k⟩ => ⟨n, H0, ρ, _, R, w, fun v H' H0' d ρ' R' S' hd hp => ?_⟩
  cases d with
  | none => have e := dp_none hd; subst e; exact ⟨_, rfl, k _ H' H0' ρ' R' S' hp⟩
  | bool b => have e := dp_bool hd; subst e; exact ⟨_, rfl, k _ H' H0' ρ' R' S' hp⟩
  | int b => have e := dp_int hd; subst e; exact ⟨_, rfl, k _ H' H0' ρ' R' S' hp⟩
  | str b => have e := dp_str hd; subst e; exact ⟨_, ⟨hp.1, rfl⟩, k _ H' H0' ρ' R' S' hp.2⟩
  | list ds =>
    obtain ⟨a, xs, rfl, h1, h2⟩ := dp_lst hd
    have hp' : P (!ds.isEmpty) ρ' := hp
    rw [dpa_empty h2] at hp'
    exact ⟨_, .inl ⟨xs, R'.sub.seq h1, rfl⟩, k _ H' H0' ρ' R' S' hp'⟩
  | tuple ds =>
    obtain ⟨a, xs, rfl, h1, h2⟩ := dp_tup hd
    have hp' : P (!ds.isEmpty) ρ' := hp
    rw [dpa_empty h2] at hp'
    exact ⟨_, .inr (.inl ⟨xs, same_t R'.sub h1, rfl⟩), k _ H' H0' ρ' R' S' hp'⟩
  | dict _ => exact hp.elim
def qAnd (qa qb : QT) : QT := fun ρ P => qa ρ fun b ρ' => if b = true then qb ρ' P else P false ρ'
def qOr (qa qb : QT) : QT := fun ρ P => qa ρ fun b ρ' => if b = true then P true ρ' else qb ρ' P
def qNot (qa : QT) : QT := fun ρ P => qa ρ fun b ρ' => P (!b) ρ'
abbrev PWd (J : Jr) (X : Cx) (e : Expr) (q : QT) : Prop := PW X e (tT X.K J q)
theorem pw_mono {t t' : TT} (h : PW X e t) (i : ∀ σ H Q, t' σ H Q → t σ H Q) : PW X e t' := ⟨fun wh pins s σ H Q I w => h.run wh pins s σ H Q I (i _ _ _ w)⟩
theorem pwd_and1 {qa : QT} (ha : PB J X a qa) : PWd J X (.BoolOp .And [a] pos) qa := pw_and1 ha
theorem pwd_or1 {qa : QT} (ha : PB J X a qa) : PWd J X (.BoolOp .Or [a] pos) qa := pw_or1 ha
theorem pwd_and {qa qb : QT} {rest : List Expr} (ha : PB J X a qa) (hb : PWd J X (.BoolOp .And (b :: rest) pos) qb) : PWd J X (.BoolOp .And (a :: b :: rest) pos) (qAnd qa qb) :=
  pw_mono (pw_and ha hb) fun σ H Q ⟨n, H0, ρ, P, R, w, k⟩ => ⟨n, H0, ρ, _, R, w, fun c H1 H01 ρ1 R1 S1 w1 => by
    cases c with
    | true => exact ⟨n, H01, ρ1, P, R1, w1, fun b H' H0' ρ' R' S' hp => k b H' H0' ρ' R' (S1.trans S') hp⟩
    | false => exact k _ H1 H01 ρ1 R1 S1 w1⟩
theorem pwd_or {qa qb : QT} {rest : List Expr} (ha : PB J X a qa) (hb : PWd J X (.BoolOp .Or (b :: rest) pos) qb) : PWd J X (.BoolOp .Or (a :: b :: rest) pos) (qOr qa qb) :=
  pw_mono (pw_or ha hb) fun σ H Q ⟨n, H0, ρ, P, R, w, k⟩ => ⟨n, H0, ρ, _, R, w, fun c H1 H01 ρ1 R1 S1 w1 => by
    cases c with
    | true => exact k _ H1 H01 ρ1 R1 S1 w1
    | false => exact ⟨n, H01, ρ1, P, R1, w1, fun b H' H0' ρ' R' S' hp => k b H' H0' ρ' R' (S1.trans S') hp⟩⟩
theorem pb_w {q : QT} (h : PWd J X e q) : PB J X e q := PW.pt h
theorem pb_not {qa : QT} (ha : PB J X a qa) : PB J X (.UnaryOp .Not a pos) (qNot qa) := pt_mono (pt_not ha) fun σ H Q ⟨n, H0, ρ, P, R, w, k⟩ => ⟨n, H0, ρ, _, R, w, fun b H' H0' ρ' R' S' hp => k (!b) H' H0' ρ' R' S' hp⟩
/-- and, or, not of bools as values -/
def qAndV (qa qb : QD) : QD := fun ρ P => qa ρ fun d ρ' => ∃ c, d = .bool c ∧ if c = true then qb ρ' P else P (.bool false) ρ'
def qOrV (qa qb : QD) : QD := fun ρ P => qa ρ fun d ρ' => ∃ c, d = .bool c ∧ if c = true then P (.bool true) ρ' else qb ρ' P
def qNotV (qa : QD) : QD := fun ρ P => qa ρ fun d ρ' => ∃ c, d = .bool c ∧ P (.bool (!c)) ρ'
theorem pd_one {op : BoolOp} {q : QD} (h : PD J X a q) : PD J X (.BoolOp op [a] pos) q := pe_one h
theorem pd_and {qa qb : QD} {rest : List Expr} (ha : PD J X a qa) (hb : PD J X (.BoolOp .And (b :: rest) pos) qb) : PD J X (.BoolOp .And (a :: b :: rest) pos) (qAndV qa qb) :=
  pe_mono (pe_and ha hb) fun σ H Q ⟨n, H0, ρ, P, R, w, k⟩ => ⟨n, H0, ρ, _, R, w, fun x H1 H01 d ρ1 R1 S1 hd w1 => by
    obtain ⟨c, rfl, w1⟩ := w1
    refine ⟨c, dp_bool hd, ?_⟩
    cases c with
    | true => exact ⟨n, H01, ρ1, P, R1, w1, fun v H' H0' d ρ' R' S' hd hp => k v H' H0' d ρ' R' (S1.trans S') hd hp⟩
    | false => exact k _ H1 H01 _ ρ1 R1 S1 (.bl _) w1⟩
theorem pd_or {qa qb : QD} {rest : List Expr} (ha : PD J X a qa) (hb : PD J X (.BoolOp .Or (b :: rest) pos) qb) : PD J X (.BoolOp .Or (a :: b :: rest) pos) (qOrV qa qb) :=
  pe_mono (pe_or ha hb) fun σ H Q ⟨n, H0, ρ, P, R, w, k⟩ => ⟨n, H0, ρ, _, R, w, fun x H1 H01 d ρ1 R1 S1 hd w1 => by
    obtain ⟨c, rfl, w1⟩ := w1
    refine ⟨c, dp_bool hd, ?_⟩
    cases c with
    | true => exact k _ H1 H01 _ ρ1 R1 S1 (.bl _) w1
    | false => exact ⟨n, H01, ρ1, P, R1, w1, fun v H' H0' d ρ' R' S' hd hp => k v H' H0' d ρ' R' (S1.trans S') hd hp⟩⟩
theorem pd_not {qa : QD} (ha : PD J X a qa) : PD J X (.UnaryOp .Not a pos) (qNotV qa) :=
  pe_mono (pe_not ha) fun σ H Q ⟨n, H0, ρ, P, R, w, k⟩ => ⟨n, H0, ρ, _, R, w, fun x H1 H01 d ρ1 R1 S1 hd w1 => by
    obtain ⟨c, rfl, w1⟩ := w1
    exact ⟨c, dp_bool hd, k _ H1 H01 _ ρ1 R1 S1 (.bl _) w1⟩⟩
def qIf (qt : QT) (qa qb : QR) : QR := fun ρ P => qt ρ fun b ρ' => if b = true then qa ρ' P else qb ρ' P
theorem pr_if {qt : QT} {qa qb : QR} (hc : PB J X c qt) (ha : PR J X a qa) (hb : PR J X b qb) : PR J X (.IfExp c a b pos) (qIf qt qa qb) :=
  pe_mono (pe_ifExp hc ha hb) fun σ H Q ⟨n, H0, ρ, P, R, w, k⟩ => ⟨n, H0, ρ, _, R, w, fun x H1 H01 ρ1 R1 S1 w1 => by
    cases x with
    | true => exact ⟨n, H01, ρ1, P, R1, w1, fun v H' H0' r ρ' R' S' hr hp => k v H' H0' r ρ' R' (S1.trans S') hr hp⟩
    | false => exact ⟨n, H01, ρ1, P, R1, w1, fun v H' H0' r ρ' R' S' hr hp => k v H' H0' r ρ' R' (S1.trans S') hr hp⟩⟩

/-! ### written tuples, lists -/
def qNil : QL := fun ρ P => P [] ρ
def qCons (qa : QD) (qr : QL) : QL := fun ρ P => qa ρ fun d ρ1 => qr ρ1 fun ds ρ2 => P (d :: ds) ρ2
theorem pl_nil : PL J X [] 0 qNil := pa_mono pa_nil fun σ H Q ⟨n, H0, ρ, P, R, w, k⟩ => k [] H H0 [] ρ R (.refl _) .nil rfl w
theorem pl_cons {m : Nat} {qa : QD} {qr : QL} (ha : PD J X e qa) (hr : PL J X es m qr) (hs : starEach (e :: es) X.env = (false, eval e X.env) :: starEach es X.env := by rfl) : PL J X (e :: es) (m + 1) (qCons qa qr) :=
  pa_mono (pa_cons ha hr hs) fun σ H Q ⟨n, H0, ρ, P, R, w, k⟩ => ⟨n, H0, ρ, _, R, w, fun x H1 H01 d ρ1 R1 S1 hd w1 => ⟨n, H01, ρ1, _, R1, w1, fun xs H2 H02 ds ρ2 R2 S2 hds hl w2 =>
    k (x :: xs) H2 H02 (d :: ds) ρ2 R2 (S1.trans S2) (.cons (dp_mono S2 d x hd) hds) (by rw [List.length_cons, hl]) w2⟩⟩
def qTup (q : QL) : QD := fun ρ P => q ρ fun ds ρ' => P (.tuple ds) ρ'
def qLst (q : QL) : QR := fun ρ P => q ρ fun ds ρ' => P (.ow ds) ρ'
theorem pd_tup {m : Nat} {x1 : Nat} {q : QL} (h : PL J X es m q) (hm : decide (m ≤ 1000) = true) : PD J X (.Tuple es x1 pos) (qTup q) :=
  pe_mono (pe_tup h) fun σ H Q ⟨n, H0, ρ, P, R, w, k⟩ => ⟨n, H0, ρ, _, R, w, fun xs H1 H01 ds ρ1 R1 S1 hds hl w1 => by
    have e := dpa_len hds
    have hm := of_decide_eq_true hm
    refine ⟨Nat.le_of_lt (small1000 (by omega)), fun p hp => ?_⟩
    have h0 := R1.h0 hp
    exact k _ _ _ (.tuple ds) ρ1 (R1.alloc hp) (S1.trans (same_up h0)) (.tup (SqT.of upd_same) (dpa_mono (same_up h0) ds xs hds)) w1⟩
theorem pr_lst {m : Nat} {q : QL} (h : PL J X es m q) (hm : decide (m ≤ 1000) = true) : PR J X (.List es pos) (qLst q) :=
  pe_mono (pe_lst h) fun σ H Q ⟨n, H0, ρ, P, R, w, k⟩ => ⟨n, H0, ρ, _, R, w, fun xs H1 H01 ds ρ1 R1 S1 hds hl w1 => by
    have e := dpa_len hds
    have hm := of_decide_eq_true hm
    refine ⟨Nat.le_of_lt (small1000 (by omega)), fun p hp => ?_⟩
    refine k _ _ _ (.ow ds) ρ1 (R1.laid hp) S1 ⟨p, xs, rfl, upd_same, hds, R1.h0 hp, R1.he0 hp, fun i es e => ?_⟩ w1
    obtain ⟨a, ys, h1, h2, _⟩ := R1.sl i _ e
    intro z
    rw [h1] at z
    cases z
    rw [hp] at h2
    cases h2⟩
end
end Zd

set_option Elab.async false
set_option linter.all false
set_option maxRecDepth 100000
set_option maxHeartbeats 4000000
namespace Zd
open PySem PySem.Spec PyProof.Rows L2
section
variable {X : Cx} {J : Jr} {e a b c : Expr} {es : List Expr} {pos : Pos}
theorem opr_or {o : Value → Value → Sem Value} {r r' : R2} (h : OpR X o r) (h' : OpR X o r') : OpR X o (fun x y H Q => r x y H Q ∨ r' x y H Q) :=
  fun pins s σ H x y v u Q I rx ry w => w.elim (h pins s σ H x y v u Q I rx ry) (h' pins s σ H x y v u Q I rx ry)
theorem here {K : PySem.W.Frag} {n : En} {σ : L2.St} {H H0 : Hp} {ρ : List Sl} {P : Sl → Prop} {Q : VK} (k : ∀ v H' H0' s, Rp K J n σ H' H0' ρ → Same H0 H0' → ResOk K n σ ρ H' H0' v s → P s → Q v H') (R : Rp K J n σ H H0 ρ)
    {v : V} {d : D} (h : Dq K H0 v d) (w : P (.da d)) : Q v H := k v H H0 (.da d) R (.refl _) h w
theorem Vw.int {K : PySem.W.Frag} {H H0 : Hp} {v : V} {i : Int} (h : Vw K H H0 v (.int i)) : v = .int i := dp_int (h.dp fun _ z => nomatch z)
theorem Vw.str {K : PySem.W.Frag} {H H0 : Hp} {v : V} {i : Str} (h : Vw K H H0 v (.str i)) : v = .str i := dp_str (h.dp fun _ z => nomatch z)
theorem Vw.bl {K : PySem.W.Frag} {H H0 : Hp} {v : V} {i : Bool} (h : Vw K H H0 v (.bool i)) : v = .bl i := dp_bool (h.dp fun _ z => nomatch z)
theorem Vw.non {K : PySem.W.Frag} {H H0 : Hp} {v : V} (h : Vw K H H0 v .none) : v = .non := dp_none (h.dp fun _ z => nomatch z)
/-- new, so of no slot -/
theorem Rp.new {K : PySem.W.Frag} {n : En} {σ : L2.St} {H H0 : Hp} {ρ : List Sl} (R : Rp K J n σ H H0 ρ) {p : Addr} (hp : H p = none) : ∀ (i : Nat) (es : List D), ρ[i]? = some (Sl.ow es) → σ[i]? ≠ some (some (V.ref p)) := fun i es e z => by
  obtain ⟨a, ys, h1, h2, _⟩ := R.sl i _ e
  rw [h1] at z
  cases z
  rw [hp] at h2
  cases h2
/-- a new list as a result -/
theorem Rp.newL {K : PySem.W.Frag} {n : En} {σ : L2.St} {H H0 : Hp} {ρ : List Sl} (R : Rp K J n σ H H0 ρ) {p : Addr} (hp : H p = none) {xs : List V} {ds : List D} (hd : DqAll K H0 xs ds) :
    Rp K J n σ (upd H p (.lst xs)) H0 ρ ∧ ResOk K n σ ρ (upd H p (.lst xs)) H0 (.ref p) (.ow ds) :=
  ⟨R.laid hp, p, xs, rfl, upd_same, hd, R.h0 hp, R.he0 hp, R.new hp⟩
/-- a new tuple as a result -/
theorem Rp.newT {K : PySem.W.Frag} {n : En} {σ : L2.St} {H H0 : Hp} {ρ : List Sl} (R : Rp K J n σ H H0 ρ) {p : Addr} (hp : H p = none) {xs : List V} {ds : List D} (hd : DqAll K H0 xs ds) :
    Rp K J n σ (upd H p (.tup xs)) (upd H0 p (.tup xs)) ρ ∧ Same H0 (upd H0 p (.tup xs)) ∧ ResOk K n σ ρ (upd H p (.tup xs)) (upd H0 p (.tup xs)) (.ref p) (.da (.tuple ds)) :=
  ⟨R.alloc hp, same_up (R.h0 hp), .tup (SqT.of upd_same) (dpa_mono (same_up (R.h0 hp)) ds xs hd)⟩

/-! ### + - * // % ** on data -/
/-- list + list, whatever lists they are -/
def rCatS (K : PySem.W.Frag) : R2 := fun x y H Q => ∃ l b xs zs, x = .ref l ∧ y = .ref b ∧ SqL K H l xs ∧ SqL K H b zs ∧ xs.length + zs.length ≤ sizeLine ∧ ∀ p, H p = none → Q (.ref p) (upd H p (.lst (xs ++ zs)))
theorem op_catS : OpR X (binaryOp .Add) (rCatS X.K) := by
  intro pins s σ H x y v u Q I rx ry w
  obtain ⟨l, b, xs, zs, rfl, rfl, h1, h2, hz, q⟩ := w
  cases rx
  cases ry
  obtain ⟨us, r1, ⟨⟨c1, d1, t1, k1⟩, n1, e1, q1, q2, q3⟩, _⟩ := I.list h1
  obtain ⟨ws, r2, ⟨⟨c2, d2, t2, k2⟩, n2, e2, p1, p2, p3⟩, _⟩ := I.list h2
  simp only at q1 q2 q3 p1 p2 p3
  subst q1 q3 p1 p3
  have l1 := r1.length
  have l2 := r2.length
  refine concat_meets ⟨_, e1, rfl⟩ ⟨_, e2, rfl⟩ noFill_list_add seq_list_add F.slot_list_add F.entry_list_add (F.args_list_add_2 _ _) (list_addW l b us.toArray ws.toArray n1 n2 d1 d2 k1 k2 (by rw [List.size_toArray, List.size_toArray]; omega)) ⟨e1, e2, ?_⟩
  rw [show us.toArray ++ ws.toArray = (us ++ ws).toArray by simp]
  exact ⟨.ref _, _, I.lnew (t' := s.toks) (r1.append r2) (by rw [List.length_append]; omega), rfl, q _ I.fresh⟩
def dAdd : DOp := fun d e P => match d, e with
  | .int i, .int j => P (.da (.int (i + j)))
  | .str x, .str y => x.length + y.length ≤ sizeLine ∧ P (.da (.str (x ++ y)))
  | .tuple x, .tuple y => x.length + y.length ≤ sizeLine ∧ P (.da (.tuple (x ++ y)))
  | .list x, .list y => x.length + y.length ≤ sizeLine ∧ P (.ow (x ++ y))
  | _, _ => False
theorem op_dAdd : DopOk J X (binaryOp .Add) dAdd := by
  refine ⟨_, opr_or (opr_or op_add op_add_str) (opr_or op_catA op_catS), fun n σ H H0 ρ x y d e P Q R hd he w k => ?_⟩
  cases d with
  | int i =>
    cases e with
    | int j =>
      have h1 := hd.int; have h2 := he.int
      subst h1; subst h2
      exact .inl (.inl ⟨i, j, rfl, rfl, here k R (Dq.int _) w⟩)
    | _ => exact w.elim
  | str i =>
    cases e with
    | str j =>
      have h1 := hd.str; have h2 := he.str
      subst h1; subst h2
      exact .inl (.inr ⟨i, j, rfl, rfl, w.1, here k R (Dq.str _) w.2⟩)
    | _ => exact w.elim
  | tuple i =>
    cases e with
    | tuple j =>
      obtain ⟨a1, xs, rfl, s1, m1⟩ := hd.tup
      obtain ⟨a2, ys, rfl, s2, m2⟩ := he.tup
      have l1 := dpa_len m1
      have l2 := dpa_len m2
      refine .inr (.inl ⟨a1, a2, xs, ys, rfl, rfl, same_t R.sub s1, same_t R.sub s2, by rw [l1, l2]; exact w.1, fun z => ?_, fun z z2 => ?_, fun z z2 p hp => ?_⟩)
      · subst z
        cases i with
        | nil => exact here k R (Dq.tup s2 m2) w.2
        | cons _ _ => cases l1
      · subst z2
        cases j with
        | nil => exact here k R (Dq.tup s1 m1) (by have := w.2; rw [List.append_nil] at this; exact this)
        | cons _ _ => cases l2
      · obtain ⟨r1, r2, r3⟩ := R.newT hp (dpa_app m1 m2)
        exact k _ _ _ _ r1 r2 r3 w.2
    | _ => exact w.elim
  | list i =>
    cases e with
    | list j =>
      obtain ⟨a1, xs, rfl, s1, m1⟩ := hd.lst R.sub
      obtain ⟨a2, ys, rfl, s2, m2⟩ := he.lst R.sub
      refine .inr (.inr ⟨a1, a2, xs, ys, rfl, rfl, s1, s2, by rw [dpa_len m1, dpa_len m2]; exact w.1, fun p hp => ?_⟩)
      obtain ⟨r1, r2⟩ := R.newL hp (dpa_app m1 m2)
      exact k _ _ _ _ r1 (.refl _) r2 w.2
    | _ => exact w.elim
  | _ => exact w.elim
def dI (C : Int → Int → Prop) (g : Int → Int → D) : DOp := fun d e P => match d, e with
  | .int i, .int j => C i j ∧ P (.da (g i j))
  | _, _ => False
theorem opis_I {K : PySem.W.Frag} {C : Int → Int → Prop} {g : Int → Int → V} {g' : Int → Int → D} (hg : ∀ i j H0, Dq K H0 (g i j) (g' i j)) : OpIs K J (rI C g) (dI C g') := fun n σ H H0 ρ x y d e P Q R hd he w k => by
  cases d with
  | int i =>
    cases e with
    | int j =>
      have h1 := hd.int; have h2 := he.int
      subst h1; subst h2
      exact ⟨i, j, rfl, rfl, w.1, here k R (hg i j H0) w.2⟩
    | _ => exact w.elim
  | _ => exact w.elim
def dSub : DOp := fun d e P => match d, e with
  | .int i, .int j => P (.da (.int (i - j)))
  | _, _ => False
theorem op_dSub : DopOk J X (binaryOp .Sub) dSub := ⟨_, op_sub, fun n σ H H0 ρ x y d e P Q R hd he w k => by
  cases d with
  | int i =>
    cases e with
    | int j => exact ⟨i, j, hd.int, he.int, here k R (.int _) w⟩
    | _ => exact w.elim
  | _ => exact w.elim⟩
/-- a product that the language takes -/
abbrev CMulA (i j : Int) : Prop := CMul i j ∨ CMulW i j
def repS (z : Str) (k : Nat) : Str := ⟨(List.replicate k z.cps.toList).flatten.toArray⟩
theorem repS_len (z : Str) (k : Nat) : (repS z k).length = k * z.length := by
  show ((List.replicate k z.cps.toList).flatten.toArray).size = _
  rw [List.size_toArray, List.length_flatten, List.map_replicate, List.sum_replicate_nat, Array.length_toList]
  rfl
theorem fold_rep (a : Array Nat) : ∀ (m : Nat) (acc : Array Nat), (List.replicate m a).foldl (· ++ ·) acc = acc ++ (List.replicate m a.toList).flatten.toArray
  | 0, acc => by simp
  | m + 1, acc => by
    rw [List.replicate_succ, List.replicate_succ, List.foldl_cons, fold_rep a m, List.flatten_cons]
    rw [Array.append_assoc]
    congr 1
    apply Array.ext'
    simp
def rMulS : R2 := fun x y H Q => ∃ z n, x = .str z ∧ y = .int n ∧ 0 ≤ n ∧ n < 2 ^ 31 ∧ z.length * n.toNat ≤ 1000000 ∧ Q (.str (repS z n.toNat)) H
theorem op_mulS : OpR X (binaryOp .Mult) rMulS := by
  intro pins s σ H x y v u Q I rx ry h
  obtain ⟨z, n, rfl, rfl, h0, h1, h2, q⟩ := h
  obtain ⟨t, rfl⟩ := rx
  obtain ⟨t', rfl⟩ := ry
  have len : (repS z n.toNat).length ≤ sizeLine := by
    rw [repS_len, Nat.mul_comm]
    exact Nat.le_trans h2 (by decide)
  refine PySem.P.mul_str ?_ ?_ ?_ ?_
  · rw [decide_eq_false (by omega), decide_eq_false (by omega)]; rfl
  · intro a1 a2 a3
    have b1 : z.length * 1 ≤ z.length * n.toNat := Nat.mul_le_mul_left _ (by omega)
    have b2 : (1000000 : Int) ≤ (2 ^ 63 - 1) / n := Int.le_ediv_of_mul_le (by omega) (by omega)
    omega
  · intro a1 a2
    unfold Builtin.Str.tooLong
    exact decide_eq_false (Nat.not_lt.mpr (Nat.le_trans h2 (by decide)))
  · by_cases c1 : n < 1
    · rw [if_pos c1]
      have e : n = 0 := by omega
      subst e
      exact ⟨by decide, .str _, H, I.tok _, ⟨_, rfl⟩, q⟩
    · rw [if_neg c1]
      by_cases c2 : (n == 1 || z.length == 0) = true
      · rw [if_pos c2]
        have e : repS z n.toNat = z := by
          obtain ⟨c⟩ := z
          rcases Bool.or_eq_true_iff.mp c2 with q1 | q1
          · have : n = 1 := by simpa using q1
            subst this
            simp [repS]
          · have q2 : c.size = 0 := beq_iff_eq.mp q1
            have q3 : c = #[] := Array.eq_empty_of_size_eq_zero q2
            subst q3
            simp [repS]
        rw [e] at q
        exact ⟨.str z, H, I, ⟨t, rfl⟩, q⟩
      · rw [if_neg c2]
        have e : (⟨(List.replicate n.toNat z.cps).foldl (· ++ ·) #[]⟩ : Str) = repS z n.toNat := by
          rw [fold_rep]
          simp [repS]
        rw [e]
        exact ⟨len, .str _, H, I.tok _, ⟨_, rfl⟩, q⟩
def dMul : DOp := fun d e P => match d, e with
  | .int i, .int j => CMulA i j ∧ P (.da (.int (i * j)))
  | .str z, .int n => 0 ≤ n ∧ n < 2 ^ 31 ∧ z.length * n.toNat ≤ 1000000 ∧ P (.da (.str (repS z n.toNat)))
  | _, _ => False
theorem CMulA.ok {i j : Int} (h : CMulA i j) : IntMulOk i j := h.elim CMul.ok CMulW.ok
theorem op_dMul : DopOk J X (binaryOp .Mult) dMul := ⟨_, opr_or (opI (C := CMulA) (g := fun i j => i * j) fun _ _ _ _ _ _ _ hc q => mul_int q hc.ok) op_mulS, fun n σ H H0 ρ x y d e P Q R hd he w k => by
  cases d with
  | int i =>
    cases e with
    | int j => exact .inl ⟨i, j, hd.int, he.int, w.1, here k R (Dq.int _) w.2⟩
    | _ => exact w.elim
  | str z =>
    cases e with
    | int j => exact .inr ⟨z, j, hd.str, he.int, w.1, w.2.1, w.2.2.1, here k R (Dq.str _) w.2.2.2⟩
    | _ => exact w.elim
  | _ => exact w.elim⟩
def dFdiv : DOp := fun d e P => dI CDivW (fun i j => .int (i / j)) d e P
theorem op_dFdiv : DopOk J X (binaryOp .FloorDiv) dFdiv := ⟨_, op_fdivW, opis_I fun _ _ _ => .int _⟩
def dMod : DOp := fun d e P => dI (fun _ j => 0 < j) (fun i j => .int (i % j)) d e P
theorem op_dMod : DopOk J X (binaryOp .Mod) dMod := ⟨_, op_mod, opis_I fun _ _ _ => .int _⟩
/-- a power that the language takes -/
def CPowA (i j : Int) : Prop := 0 ≤ j ∧ (Builtin.Int.intBits i : Int) * j ≤ 2 ^ 27
def dPow : DOp := fun d e P => dI CPowA (fun i j => .int (i ^ j.toNat)) d e P
theorem op_dPow : DopOk J X (binaryOp .Pow) dPow := ⟨_, opI fun _ _ _ _ _ _ _ hc q => pow_int hc.1 hc.2 q, opis_I fun _ _ _ => .int _⟩
def dShl : DOp := fun d e P => dI CPow (fun i j => .int (i * 2 ^ j.toNat)) d e P
theorem op_dShl : DopOk J X (binaryOp .LShift) dShl := ⟨_, op_shl, opis_I fun _ _ _ => .int _⟩

/-! ### comparisons -/
def dC (p : Int → Int → Bool) : DOp := fun d e P => match d, e with
  | .int i, .int j => P (.da (.bool (p i j)))
  | _, _ => False
theorem opis_C {K : PySem.W.Frag} {p : Int → Int → Bool} : OpIs K J (rI0 fun i j => .bl (p i j)) (dC p) := fun n σ H H0 ρ x y d e P Q R hd he w k => by
  cases d with
  | int i =>
    cases e with
    | int j =>
      have h1 := hd.int; have h2 := he.int
      subst h1; subst h2
      exact ⟨i, j, rfl, rfl, here k R (Dq.bl _) w⟩
    | _ => exact w.elim
  | _ => exact w.elim
/-- < and > of two numbers or two texts -/
def dC2 (p : Int → Int → Bool) (s : List Nat → List Nat → Bool) : DOp := fun d e P => match d, e with
  | .int i, .int j => P (.da (.bool (p i j)))
  | .str x, .str y => P (.da (.bool (s x.cps.toList y.cps.toList)))
  | _, _ => False
theorem opis_C2 {K : PySem.W.Frag} {p : Int → Int → Bool} {s : List Nat → List Nat → Bool} : OpIs K J (fun x y H Q => rI0 (fun i j => .bl (p i j)) x y H Q ∨ ∃ i j, x = .str i ∧ y = .str j ∧ Q (.bl (s i.cps.toList j.cps.toList)) H) (dC2 p s) := fun n σ H H0 ρ x y d e P Q R hd he w k => by
  cases d with
  | int i =>
    cases e with
    | int j =>
      have h1 := hd.int; have h2 := he.int
      subst h1; subst h2
      exact .inl ⟨i, j, rfl, rfl, here k R (Dq.bl _) w⟩
    | _ => exact w.elim
  | str i =>
    cases e with
    | str j =>
      have h1 := dp_str (hd.dp fun _ z => by cases z); have h2 := dp_str (he.dp fun _ z => by cases z)
      subst h1; subst h2
      exact .inr ⟨i, j, rfl, rfl, here k R (Dq.bl _) w⟩
    | _ => exact w.elim
  | _ => exact w.elim
def dLt : DOp := fun d e P => dC2 (fun i j => decide (i < j)) (fun a b => decide (a < b)) d e P
def dLe : DOp := fun d e P => dC (fun i j => decide (i ≤ j)) d e P
def dGt : DOp := fun d e P => dC2 (fun i j => decide (j < i)) (fun a b => decide (b < a)) d e P
def dGe : DOp := fun d e P => dC (fun i j => decide (j ≤ i)) d e P
theorem op_dLt : DopOk J X (compareOp .Lt) dLt := ⟨_, opr_or op_lt op_lt_str, opis_C2⟩
theorem op_dGt : DopOk J X (compareOp .Gt) dGt := ⟨_, opr_or op_gt op_gt_str, opis_C2⟩
theorem op_dLe : DopOk J X (compareOp .LtE) dLe := ⟨_, op_le, opis_C⟩
theorem op_dGe : DopOk J X (compareOp .GtE) dGe := ⟨_, op_ge, opis_C⟩
/-- == of data -/
def dEqB (g : Bool → Bool) : DOp := fun d e P => match d, e with
  | .int i, .int j => P (.da (.bool (g (decide (i = j)))))
  | .str x, .str y => P (.da (.bool (g (decide (x = y)))))
  | .bool x, .bool y => P (.da (.bool (g (decide (x = y)))))
  | d, e => SeqAt.shaped d = true ∧ SeqAt.shaped e = true ∧ P (.da (.bool (g (PyData.eqv d e))))
theorem eq_ready {K : PySem.W.Frag} {g : Bool → Bool} {n : En} {σ : L2.St} {H H0 : Hp} {ρ : List Sl} {x y : V} {d e : D} {P : Sl → Prop} {Q : VK} (R : Rp K J n σ H H0 ρ) (hd : Vw K H H0 x d) (he : Vw K H H0 y e) (w : dEqB g d e P)
    (k : ∀ v H' H0' s, Rp K J n σ H' H0' ρ → Same H0 H0' → ResOk K n σ ρ H' H0' v s → P s → Q v H') :
    (scal x y = true ∧ Q (.bl (g (decide (x = y)))) H) ∨ (∃ d e, L2.Dp K H x d ∧ L2.Dp K H y e ∧ SeqAt.shaped d = true ∧ SeqAt.shaped e = true ∧ Q (.bl (g (PyData.eqv d e))) H) := by
  have gen : SeqAt.shaped d = true ∧ SeqAt.shaped e = true ∧ P (.da (.bool (g (PyData.eqv d e)))) → ∃ d e, L2.Dp K H x d ∧ L2.Dp K H y e ∧ SeqAt.shaped d = true ∧ SeqAt.shaped e = true ∧ Q (.bl (g (PyData.eqv d e))) H := fun ⟨w1, w2, w3⟩ =>
    ⟨d, e, dq_dp d x (hd.at R.sub), dq_dp e y (he.at R.sub), w1, w2, here k R (Dq.bl _) w3⟩
  cases d with
  | int i =>
    cases e with
    | int j =>
      have h1 := hd.int; have h2 := he.int
      subst h1; subst h2
      refine .inl ⟨rfl, ?_⟩
      have q : decide ((V.int i) = V.int j) = decide (i = j) := by simp
      rw [q]
      exact here k R (Dq.bl _) w
    | _ => exact .inr (gen w)
  | str i =>
    cases e with
    | str j =>
      have h1 := hd.str; have h2 := he.str
      subst h1; subst h2
      refine .inl ⟨rfl, ?_⟩
      have q : decide ((V.str i) = V.str j) = decide (i = j) := by simp
      rw [q]
      exact here k R (Dq.bl _) w
    | _ => exact .inr (gen w)
  | bool i =>
    cases e with
    | bool j =>
      have h1 := hd.bl; have h2 := he.bl
      subst h1; subst h2
      refine .inl ⟨rfl, ?_⟩
      have q : decide ((V.bl i) = V.bl j) = decide (i = j) := by simp
      rw [q]
      exact here k R (Dq.bl _) w
    | _ => exact .inr (gen w)
  | _ => exact .inr (gen w)
def dEq : DOp := fun d e P => dEqB (fun b => b) d e P
def dNe : DOp := fun d e P => dEqB (fun b => !b) d e P
theorem op_dEq (hu : X.A.units + 64 < cLine) : DopOk J X (compareOp .Eq) dEq := ⟨_, opr_or op_eq (op_eqD hu), fun n σ H H0 ρ x y d e P Q R hd he w k => eq_ready (g := fun b => b) R hd he w k⟩
theorem op_dNe (hu : X.A.units + 64 < cLine) : DopOk J X (compareOp .NotEq) dNe := ⟨_, opr_or op_ne (op_neD hu), fun n σ H H0 ρ x y d e P Q R hd he w k => eq_ready (g := fun b => !b) R hd he w k⟩
/-- is None -/
def isNon : D → Bool
  | .none => true
  | _ => false
def dIs (g : Bool → Bool) : DOp := fun d e P => match e with
  | .none => P (.da (.bool (g (isNon d))))
  | _ => False
theorem isNon_v {K : PySem.W.Frag} {H : Hp} {x : V} {d : D} (h : Dq K H x d) : decide (x = .non) = isNon d := by
  cases h <;> rfl
theorem op_dIs : DopOk J X (compareOp .Is) (dIs fun b => b) := ⟨_, op_isN, fun n σ H H0 ρ x y d e P Q R hd he w k => by
  cases e with
  | none =>
    have w' : P (.da (.bool (isNon d))) := w
    rw [← isNon_v (hd.at R.sub)] at w'
    exact ⟨he.non, here k R (Dq.bl _) w'⟩
  | _ => exact w.elim⟩
theorem op_dIsN : DopOk J X (compareOp .IsNot) (dIs fun b => !b) := ⟨_, op_notN, fun n σ H H0 ρ x y d e P Q R hd he w k => by
  cases e with
  | none =>
    have w' : P (.da (.bool (!isNon d))) := w
    rw [← isNon_v (hd.at R.sub)] at w'
    exact ⟨he.non, here k R (Dq.bl _) w'⟩
  | _ => exact w.elim⟩
/-- in -/
def flatD : D → Bool
  | .none => true
  | .bool _ => true
  | .int _ => true
  | .str _ => true
  | _ => false
def inD (x : D) (ds : List D) : Bool := ds.any fun y => PyData.eqv y x
theorem flat_v {K : PySem.W.Frag} {H : Hp} {x : V} {d : D} (h : Dq K H x d) (f : flatD d = true) : flatV x = true := by
  cases h <;> first | rfl | cases f
theorem eqV_v {K : PySem.W.Frag} {H : Hp} {x y : V} {d e : D} (h : Dq K H x d) (h' : Dq K H y e) (f : flatD d = true) (f' : flatD e = true) : eqV x y = PyData.eqv d e := by
  cases h <;> first | (cases h' <;> first | rfl | cases f') | cases f
theorem flats_v {K : PySem.W.Frag} {H : Hp} : ∀ {ds : List D} {xs : List V}, DqAll K H xs ds → ds.all flatD = true → xs.all flatV = true
  | [], _, h, _ => by cases h; rfl
  | d :: ds, _, h, f => by
    cases h with
    | cons h1 h2 =>
      rw [List.all_cons, Bool.and_eq_true] at f ⊢
      exact ⟨flat_v h1 f.1, flats_v h2 f.2⟩
theorem inV_v {K : PySem.W.Frag} {H : Hp} {x : V} {d : D} (h : Dq K H x d) (fx : flatD d = true) : ∀ {ds : List D} {xs : List V}, DqAll K H xs ds → ds.all flatD = true → inV x xs = inD d ds
  | [], _, h, _ => by cases h; rfl
  | e :: ds, _, hs, f => by
    cases hs with
    | cons h1 h2 =>
      rw [List.all_cons, Bool.and_eq_true] at f
      have ih := inV_v h fx h2 f.2
      show (eqV _ x || inV x _) = (PyData.eqv e d || inD d ds)
      rw [ih, eqV_v h1 h f.1 fx]
def dIn (g : Bool → Bool) : DOp := fun d e P => match e with
  | .str y => ∃ x, d = .str x ∧ P (.da (.bool (g (!(Builtin.Str.occurrences y x 0 y.length 1).isEmpty))))
  | .tuple ds => flatD d = true ∧ ds.all flatD = true ∧ P (.da (.bool (g (inD d ds))))
  | .list ds => flatD d = true ∧ ds.all flatD = true ∧ P (.da (.bool (g (inD d ds))))
  | _ => False
theorem in_ready {K : PySem.W.Frag} {g : Bool → Bool} {n : En} {σ : L2.St} {H H0 : Hp} {ρ : List Sl} {x y : V} {d e : D} {P : Sl → Prop} {Q : VK} (R : Rp K J n σ H H0 ρ) (hd : Vw K H H0 x d) (he : Vw K H H0 y e) (w : dIn g d e P)
    (k : ∀ v H' H0' s, Rp K J n σ H' H0' ρ → Same H0 H0' → ResOk K n σ ρ H' H0' v s → P s → Q v H') :
    (∃ i j, x = .str i ∧ y = .str j ∧ Q (.bl (g (!(Builtin.Str.occurrences j i 0 j.length 1).isEmpty))) H) ∨
    (∃ p xs, y = .ref p ∧ (SqL K H p xs ∨ SqT K H p xs) ∧ flatV x = true ∧ xs.all flatV = true ∧ Q (.bl (g (inV x xs))) H) := by
  have hx := hd.at R.sub
  cases e with
  | str j =>
    obtain ⟨i, rfl, w⟩ := w
    exact .inl ⟨i, j, hd.str, he.str, here k R (Dq.bl _) w⟩
  | tuple ds =>
    obtain ⟨p, xs, rfl, s1, m1⟩ := he.tup
    have m2 := dpa_mono R.sub ds xs m1
    refine .inr ⟨p, xs, rfl, .inr (same_t R.sub s1), flat_v hx w.1, flats_v m2 w.2.1, ?_⟩
    rw [inV_v hx w.1 m2 w.2.1]
    exact here k R (Dq.bl _) w.2.2
  | list ds =>
    obtain ⟨p, xs, rfl, s1, m1⟩ := he.lst R.sub
    have m2 := dpa_mono R.sub ds xs m1
    refine .inr ⟨p, xs, rfl, .inl (s1), flat_v hx w.1, flats_v m2 w.2.1, ?_⟩
    rw [inV_v hx w.1 m2 w.2.1]
    exact here k R (Dq.bl _) w.2.2
  | _ => exact w.elim
theorem op_dIn : DopOk J X (compareOp .In) (dIn fun b => b) := ⟨_, opr_or op_in_str op_in_seq, fun n σ H H0 ρ x y d e P Q R hd he w k => in_ready (g := fun b => b) R hd he w k⟩
theorem op_dNotIn : DopOk J X (compareOp .NotIn) (dIn fun b => !b) := ⟨_, opr_or op_notIn_str op_notIn_seq, fun n σ H H0 ρ x y d e P Q R hd he w k => in_ready (g := fun b => !b) R hd he w k⟩

/-! ### minus; an item; a slice -/
def qNeg (q : QD) : QD := fun ρ P => q ρ fun d ρ' => ∃ i, d = .int i ∧ P (.int (-i)) ρ'
theorem pd_neg {q : QD} (h : PD J X a q) : PD J X (.UnaryOp .USub a pos) (qNeg q) := pe_mono (pe_un un_neg h) fun σ H Q ⟨n, H0, ρ, P, R, w, k⟩ => ⟨n, H0, ρ, _, R, w, fun x H1 H01 d ρ1 R1 S1 hd ⟨i, ei, w1⟩ => by
  subst ei
  exact ⟨i, dp_int hd, k _ H1 H01 _ ρ1 R1 S1 (.int _) w1⟩⟩
def dIx : DOp := fun d e P => match d, e with
  | .tuple ds, .int i => ∃ x, atI ds i = some x ∧ P (.da x)
  | .list ds, .int i => ∃ x, atI ds i = some x ∧ P (.da x)
  | .str s, .int i => s.length ≤ 100000 ∧ ∃ c, atI s.cps.toList i = some c ∧ P (.da (.str ⟨#[c]⟩))
  | _, _ => False
theorem atI_v {K : PySem.W.Frag} {H : Hp} {ds : List D} {xs : List V} {i : Int} {x : D} (h : DqAll K H xs ds) (e : atI ds i = some x) : ∃ v, atI xs i = some v ∧ Dq K H v x := by
  unfold atI at e ⊢
  rw [dpa_len h]
  cases z : ixN ds.length i with
  | none => rw [z] at e; cases e
  | some j =>
    rw [z] at e
    exact dpa_get' h e
theorem opis_Ix {K : PySem.W.Frag} : OpIs K J (rIx K) dIx := fun n σ H H0 ρ x y d e P Q R hd he w k => by
  cases d with
  | tuple ds =>
    cases e with
    | int i =>
      obtain ⟨z, h1, h2⟩ := w
      obtain ⟨p, xs, rfl, s1, m1⟩ := hd.tup
      obtain ⟨v, q1, q2⟩ := atI_v m1 h1
      exact .inr (.inl ⟨p, xs, i, v, rfl, he.int, same_t R.sub s1, q1, here k R q2 h2⟩)
    | _ => exact w.elim
  | list ds =>
    cases e with
    | int i =>
      obtain ⟨z, h1, h2⟩ := w
      obtain ⟨p, xs, rfl, s1, m1⟩ := hd.lst R.sub
      obtain ⟨v, q1, q2⟩ := atI_v m1 h1
      exact .inl ⟨p, xs, i, v, rfl, he.int, s1, q1, here k R q2 h2⟩
    | _ => exact w.elim
  | str s =>
    cases e with
    | int i =>
      obtain ⟨h0, c, h1, h2⟩ := w
      exact .inr (.inr ⟨s, i, c, hd.str, he.int, Nat.le_trans h0 (by decide), h1, here k R (Dq.str _) h2⟩)
    | _ => exact w.elim
  | _ => exact w.elim
theorem pr_ix {qa qb : QD} (ha : PD J X a qa) (hb : PV J X b qb) (hs : PlainIx b) : PR J X (.Subscript a b pos) (qBin dIx qa qb) := pe_mono (pe_ix ix_seq ha hb hs) (bin_mono opis_Ix)
theorem pr_ixN {i : Nat} {qb : QD} (ha : PE X a (tVar i)) (hb : PV J X b qb) (hs : PlainIx b) : PR J X (.Subscript a b pos) (qBinM dIx i qb) := pe_mono (pe_ix ix_seq ha hb hs) (binM_mono opis_Ix)

abbrev QO := List Sl → (Option Int → List Sl → Prop) → Prop
def tO (K : PySem.W.Frag) (J : Jr) (q : QO) : TO := fun σ H Q => ∃ (n : En) (H0 : Hp) (ρ : List Sl) (P : Option Int → List Sl → Prop), Rp K J n σ H H0 ρ ∧ q ρ P ∧
  ∀ o H' H0' ρ', Rp K J n σ H' H0' ρ' → Same H0 H0' → P o ρ' → Q o H'
theorem po_mono {o : Option Expr} {t t' : TO} (h : PO X o t) (i : ∀ σ H Q, t' σ H Q → t σ H Q) : PO X o t' := ⟨fun pins s σ H Q I w => h.run pins s σ H Q I (i _ _ _ w)⟩
def qO0 : QO := fun ρ P => P none ρ
def qO1 (q : QD) : QO := fun ρ P => q ρ fun d ρ' => ∃ i, d = .int i ∧ P (some i) ρ'
theorem pod_none : PO X none (tO X.K J qO0) := po_mono po_none fun σ H Q ⟨n, H0, ρ, P, R, w, k⟩ => k none H H0 ρ R (.refl _) w
theorem pod_some {q : QD} (h : PD J X e q) : PO X (some e) (tO X.K J (qO1 q)) := po_mono (po_some h) fun σ H Q ⟨n, H0, ρ, P, R, w, k⟩ => ⟨n, H0, ρ, _, R, w, fun x H1 H01 d ρ1 R1 S1 hd ⟨i, ei, w1⟩ => by
  subst ei
  exact ⟨i, dp_int hd, k _ H1 H01 ρ1 R1 S1 w1⟩⟩
def cutD {α : Type} (ds : List α) (lo hi : Option Int) : List α := (ds.drop (HT.sIx ds.length 0 lo)).take (HT.sIx ds.length ds.length hi - HT.sIx ds.length 0 lo)
def dSl (d : D) (lo hi : Option Int) (P : Sl → Prop) : Prop := match d with
  | .tuple ds => P (.da (.tuple (cutD ds lo hi)))
  | .list ds => P (.ow (cutD ds lo hi))
  | .str z => z.length ≤ sizeLine ∧ P (.da (.str (cutS z lo hi)))
  | _ => False
def rSl3 (K : PySem.W.Frag) : V → Option Int → Option Int → Hp → VK → Prop := fun x lo hi H Q => rSlT3 K x lo hi H Q
where rSlT3 (K : PySem.W.Frag) : V → Option Int → Option Int → Hp → VK → Prop := fun x lo hi H Q => rSlA K x lo hi H Q ∨ (rSlL K x lo hi H Q ∨ rSlS x lo hi H Q)
theorem sl_3 : SlR X (rSl3 X.K) := SlR.or sl_tupA (SlR.or sl_list sl_str)
theorem cut_v {K : PySem.W.Frag} {H : Hp} {ds : List D} {xs : List V} {lo hi : Option Int} (h : DqAll K H xs ds) : DqAll K H (cutV xs lo hi) (cutD ds lo hi) := by
  unfold cutV cutD
  rw [dpa_len h]
  exact dpa_take _ (dpa_drop _ h)
theorem sl_ready {K : PySem.W.Frag} {n : En} {σ : L2.St} {H H0 : Hp} {ρ : List Sl} {x : V} {d : D} {lo hi : Option Int} {P : Sl → Prop} {Q : VK} (R : Rp K J n σ H H0 ρ) (hd : Vw K H H0 x d) (w : dSl d lo hi P)
    (k : ∀ v H' H0' s, Rp K J n σ H' H0' ρ → Same H0 H0' → ResOk K n σ ρ H' H0' v s → P s → Q v H') : rSl3 K x lo hi H Q := by
  cases d with
  | tuple ds =>
    obtain ⟨p, xs, rfl, s1, m1⟩ := hd.tup
    refine .inl ⟨p, xs, rfl, same_t R.sub s1, fun z => ?_, fun _ q hq => ?_⟩
    · have e : cutD ds lo hi = ds := by
        unfold cutD
        rw [← dpa_len m1, z.1, z.2, List.drop_zero, Nat.sub_zero, dpa_len m1]
        exact List.take_length
      refine k _ H H0 (.da (.tuple (cutD ds lo hi))) R (.refl _) ?_ w
      rw [e]
      exact .tup s1 m1
    · obtain ⟨r1, r2, r3⟩ := R.newT hq (cut_v (lo := lo) (hi := hi) m1)
      exact k _ _ _ _ r1 r2 r3 w
  | list ds =>
    obtain ⟨p, xs, rfl, s1, m1⟩ := hd.lst R.sub
    refine .inr (.inl ⟨p, xs, rfl, s1, fun q hq => ?_⟩)
    obtain ⟨r1, r2⟩ := R.newL hq (cut_v (lo := lo) (hi := hi) m1)
    exact k _ _ _ _ r1 (.refl _) r2 w
  | str s => exact .inr (.inr ⟨s, hd.str, w.1, here k R (Dq.str _) w.2⟩)
  | _ => exact w.elim
def qSl (qa : QD) (ql qh : QO) : QR := fun ρ P => qa ρ fun d ρ1 => ql ρ1 fun lo ρ2 => qh ρ2 fun hi ρ3 => dSl d lo hi fun s => P s ρ3
def qSlN (i : Nat) (ql qh : QO) : QR := fun ρ P => known ρ i ∧ ql ρ fun lo ρ2 => qh ρ2 fun hi ρ3 => seeD ρ3[i]? fun d => dSl d lo hi fun s => P s ρ3
theorem pr_sl {qa : QD} {ql qh : QO} {lo hi : Option Expr} {p2 : Pos} (ha : PD J X a qa) (hl : PO X lo (tO X.K J ql)) (hh : PO X hi (tO X.K J qh)) : PR J X (.Subscript a (.Slice lo hi none p2) pos) (qSl qa ql qh) :=
  pe_mono (pe_slice sl_3 ha hl hh) fun σ H Q ⟨n, H0, ρ, P, R, w, k⟩ => ⟨n, H0, ρ, _, R, w, fun x H1 H01 d ρ1 R1 S1 hd w1 => ⟨n, H01, ρ1, _, R1, w1, fun l H2 H02 ρ2 R2 S2 w2 => ⟨n, H02, ρ2, _, R2, w2, fun u H3 H03 ρ3 R3 S3 w3 =>
    sl_ready R3 (.of (dp_mono (S2.trans S3) d x hd)) w3 fun v H' H0' s R' S' hs hp => k v H' H0' s ρ3 R' (((S1.trans S2).trans S3).trans S') hs hp⟩⟩⟩
theorem pr_slN {i : Nat} {ql qh : QO} {lo hi : Option Expr} {p2 : Pos} (ha : PE X a (tVar i)) (hl : PO X lo (tO X.K J ql)) (hh : PO X hi (tO X.K J qh)) : PR J X (.Subscript a (.Slice lo hi none p2) pos) (qSlN i ql qh) :=
  pe_mono (pe_slice sl_3 ha hl hh) fun σ H Q ⟨n, H0, ρ, P, R, w, k⟩ => by
    obtain ⟨x, hx⟩ := R.hasV w.1
    exact ⟨x, hx, n, H0, ρ, _, R, w.2, fun l H2 H02 ρ2 R2 S2 w2 => ⟨n, H02, ρ2, _, R2, w2, fun u H3 H03 ρ3 R3 S3 w3 => by
      obtain ⟨x', d, h1, h2, h3⟩ := R3.see w3
      rw [hx] at h1
      cases h1
      exact sl_ready R3 h2 h3 fun v H' H0' s R' S' hs hp => k v H' H0' s ρ3 R' ((S2.trans S3).trans S') hs hp⟩⟩

/-! ### calls of built-ins: the last argument may be a list that stands -/
def tLV (K : PySem.W.Frag) (J : Jr) (m : Nat) (q : QL) : TA := fun σ H Q => ∃ (n : En) (H0 : Hp) (ρ : List Sl) (P : List D → List Sl → Prop), Rp K J n σ H H0 ρ ∧ q ρ P ∧
  ∀ vs H' H0' ds ρ', Rp K J n σ H' H0' ρ' → Same H0 H0' → Paired (fun v d => Vw K H' H0' v d) vs ds → ds.length = m → P ds ρ' → Q vs H'
abbrev PLV (J : Jr) (X : Cx) (es : List Expr) (m : Nat) (q : QL) : Prop := PA X es (tLV X.K J m q)
theorem plv_one {qa : QD} (ha : PV J X e qa) (hs : starEach [e] X.env = (false, eval e X.env) :: starEach [] X.env := by rfl) : PLV J X [e] 1 (qCons qa qNil) :=
  pa_mono (pa_cons ha pa_nil hs) fun σ H Q ⟨n, H0, ρ, P, R, w, k⟩ => ⟨n, H0, ρ, _, R, w, fun x H1 H01 d ρ1 R1 S1 hd w1 => k [x] H1 H01 [d] ρ1 R1 S1 (.cons hd .nil) rfl w1⟩
theorem vw_mono {K : PySem.W.Frag} {H' H0 H0' : Hp} {v : V} {d : D} (s0 : Same H0 H0') (h : Dq K H0 v d) : Vw K H' H0' v d := .inl (dp_mono s0 d v h)
theorem plv_cons {m : Nat} {qa : QD} {qr : QL} (ha : PD J X e qa) (hr : PLV J X es m qr) (hs : starEach (e :: es) X.env = (false, eval e X.env) :: starEach es X.env := by rfl) : PLV J X (e :: es) (m + 1) (qCons qa qr) :=
  pa_mono (pa_cons ha hr hs) fun σ H Q ⟨n, H0, ρ, P, R, w, k⟩ => ⟨n, H0, ρ, _, R, w, fun x H1 H01 d ρ1 R1 S1 hd w1 => ⟨n, H01, ρ1, _, R1, w1, fun xs H2 H02 ds ρ2 R2 S2 hds hl w2 =>
    k (x :: xs) H2 H02 (d :: ds) ρ2 R2 (S1.trans S2) (.cons (vw_mono S2 hd) hds) (by rw [List.length_cons, hl]) w2⟩⟩
abbrev DCl := List D → (Sl → Prop) → Prop
def ClIs (K : PySem.W.Frag) (J : Jr) (r : List V → Hp → VK → Prop) (g : DCl) : Prop := ∀ n σ H H0 ρ vs ds P (Q : VK), Rp K J n σ H H0 ρ → Paired (fun v d => Vw K H H0 v d) vs ds → g ds P →
  (∀ v H' H0' s, Rp K J n σ H' H0' ρ → Same H0 H0' → ResOk K n σ ρ H' H0' v s → P s → Q v H') → r vs H Q
def DclOk (J : Jr) (X : Cx) (f : Value) (g : DCl) : Prop := ∃ r, CallR X f r ∧ ClIs X.K J r g
def qCl (g : DCl) (qa : QL) : QR := fun ρ P => qa ρ fun ds ρ' => g ds fun s => P s ρ'
theorem cl_mono {r : List V → Hp → VK → Prop} {g : DCl} {m : Nat} {qa : QL} (hr : ClIs X.K J r g) : ∀ σ H Q, tR X.K J (qCl g qa) σ H Q → tCB r (tLV X.K J m qa) σ H Q := fun σ H Q ⟨n, H0, ρ, P, R, w, k⟩ =>
  ⟨n, H0, ρ, _, R, w, fun vs H1 H01 ds ρ1 R1 S1 hd hl w1 => hr n σ H1 H01 ρ1 vs ds _ Q R1 hd w1 fun v H' H0' s R' S' hs hp => k v H' H0' s ρ1 R' (S1.trans S') hs hp⟩
theorem pr_callB {id : String} {g : DCl} {m : Nat} {qa : QL} {x : Str} {p : Pos} (hc : DclOk J X (.builtin id) g) (hg : Gl X x) (hm : X.mg x = none) (hv : bootBuiltins x = some (.builtin id)) (ha : PLV J X (e :: es) m qa)
    (hn : x ≠ "__name__" := by decide) (hdb : (x == ("__debug__" : Str)) = false := by decide)
    (he : starEach (e :: es) X.env = (false, eval e X.env) :: starEach es X.env := by rfl) (hpl : (backTo pos (starEach es X.env)).any (·.1) = false := by rfl) : PR J X (.Call (.Name x p) (e :: es) [] pos) (qCl g qa) := by
  obtain ⟨r, h1, h2⟩ := hc
  exact pe_mono (pe_callB h1 hg hm hv ha hn hdb he hpl) (cl_mono h2)
theorem pr_callTy {T : String} {g : DCl} {m : Nat} {qa : QL} {x : Str} {p : Pos} (hc : DclOk J X (.type T) g) (hg : Gl X x) (hm : X.mg x = none) (hv : bootBuiltins x = some (.type T)) (ha : PLV J X (e :: es) m qa)
    (hn : x ≠ "__name__" := by decide) (hdb : (x == ("__debug__" : Str)) = false := by decide)
    (he : starEach (e :: es) X.env = (false, eval e X.env) :: starEach es X.env := by rfl) (hpl : (backTo pos (starEach es X.env)).any (·.1) = false := by rfl) : PR J X (.Call (.Name x p) (e :: es) [] pos) (qCl g qa) := by
  obtain ⟨r, h1, h2⟩ := hc
  exact pe_mono (pe_callTy h1 hg hm hv ha hn hdb he hpl) (cl_mono h2)
theorem clr_or {f : Value} {r r' : List V → Hp → VK → Prop} (h : CallR X f r) (h' : CallR X f r') : CallR X f (fun vs H Q => r vs H Q ∨ r' vs H Q) :=
  fun pins s σ H xs us Q I rx w => w.elim (h pins s σ H xs us Q I rx) (h' pins s σ H xs us Q I rx)
/-- len -/
def cLen : DCl := fun ds P => match ds with
  | [.str x] => x.length ≤ sizeLine ∧ P (.da (.int x.length))
  | [.list x] => P (.da (.int x.length))
  | [.tuple x] => P (.da (.int x.length))
  | _ => False
theorem paired1 {α β : Type} {p : α → β → Prop} : ∀ {xs : List α} {y : β}, Paired p xs [y] → ∃ x, xs = [x] ∧ p x y
  | _, _, .cons h .nil => ⟨_, rfl, h⟩
theorem paired2 {α β : Type} {p : α → β → Prop} : ∀ {xs : List α} {y z : β}, Paired p xs [y, z] → ∃ u v, xs = [u, v] ∧ p u y ∧ p v z
  | _, _, _, .cons h (.cons h' .nil) => ⟨_, _, rfl, h, h'⟩
theorem cl_len : DclOk J X (.builtin "len") cLen := ⟨_, call_len, fun n σ H H0 ρ vs ds P Q R hp w k => by
  match ds, w with
  | [.str x], w =>
    obtain ⟨v, rfl, h⟩ := paired1 hp
    have e := h.str
    subst e
    exact ⟨_, _, rfl, ⟨w.1, rfl⟩, here k R (Dq.int _) w.2⟩
  | [.list x], w =>
    obtain ⟨v, rfl, h⟩ := paired1 hp
    obtain ⟨p, xs, rfl, s1, m1⟩ := h.lst R.sub
    exact ⟨_, _, rfl, .inl ⟨xs, s1, (dpa_len m1).symm⟩, here k R (Dq.int _) w⟩
  | [.tuple x], w =>
    obtain ⟨v, rfl, h⟩ := paired1 hp
    obtain ⟨p, xs, rfl, s1, m1⟩ := h.tup
    exact ⟨_, _, rfl, .inr ⟨xs, same_t R.sub s1, (dpa_len m1).symm⟩, here k R (Dq.int _) w⟩⟩
/-- abs, int -/
def cAbs : DCl := fun ds P => match ds with
  | [.int i] => P (.da (.int (if i < 0 then -i else i)))
  | _ => False
theorem cl_abs : DclOk J X (.builtin "abs") cAbs := ⟨_, call_abs, fun n σ H H0 ρ vs ds P Q R hp w k => by
  match ds, w with
  | [.int i], w =>
    obtain ⟨v, rfl, h⟩ := paired1 hp
    have e := h.int
    subst e
    exact ⟨i, rfl, here k R (Dq.int _) w⟩⟩
def cInt : DCl := fun ds P => match ds with
  | [.int i] => P (.da (.int i))
  | [.bool k] => P (.da (.int (if k then 1 else 0)))
  | _ => False
theorem cl_int : DclOk J X (.type "int") cInt := ⟨_, call_int1, fun n σ H H0 ρ vs ds P Q R hp w k => by
  match ds, w with
  | [.int i], w =>
    obtain ⟨v, rfl, h⟩ := paired1 hp
    have e := h.int
    subst e
    exact .inl ⟨i, rfl, here k R (Dq.int _) w⟩
  | [.bool i], w =>
    obtain ⟨v, rfl, h⟩ := paired1 hp
    have e := h.bl
    subst e
    exact .inr ⟨i, rfl, here k R (Dq.int _) w⟩⟩
def cMin : DCl := fun ds P => match ds with
  | [.int i, .int j] => P (.da (.int (if j < i then j else i)))
  | _ => False
def cMax : DCl := fun ds P => match ds with
  | [.int i, .int j] => P (.da (.int (if j > i then j else i)))
  | _ => False
theorem cl_min (hc : X.calm = true) : DclOk J X (.builtin "min") cMin := ⟨_, call_min2 hc, fun n σ H H0 ρ vs ds P Q R hp w k => by
  match ds, w with
  | [.int i, .int j], w =>
    obtain ⟨u, v, rfl, h, h'⟩ := paired2 hp
    have e := h.int
    have e' := h'.int
    subst e; subst e'
    exact ⟨i, j, rfl, here k R (Dq.int _) w⟩⟩
theorem cl_max (hc : X.calm = true) : DclOk J X (.builtin "max") cMax := ⟨_, call_max2 hc, fun n σ H H0 ρ vs ds P Q R hp w k => by
  match ds, w with
  | [.int i, .int j], w =>
    obtain ⟨u, v, rfl, h, h'⟩ := paired2 hp
    have e := h.int
    have e' := h'.int
    subst e; subst e'
    exact ⟨i, j, rfl, here k R (Dq.int _) w⟩⟩
def cGcd : DCl := fun ds P => match ds with
  | [.int i, .int j] => P (.da (.int (Int.gcd i j)))
  | _ => False
/-- a sign of a text -/
def sgn (c : Nat) : D := .str ⟨#[c]⟩
def sgV (z : Str) : List V := z.cps.toList.map fun c => V.str ⟨#[c]⟩
theorem sg_dqa {K : PySem.W.Frag} {H : Hp} : ∀ cs : List Nat, DqAll K H (cs.map fun c => V.str ⟨#[c]⟩) (cs.map sgn)
  | [] => .nil
  | _ :: cs => .cons (.str _) (sg_dqa cs)
theorem sg_vals {z : Str} {acc : Array Value} (h : ItemsOf (SignAt z) acc z.cps.size) : Vals (sgV z) acc.toList := by
  refine vals_of_at (by unfold sgV; rw [List.length_map, Array.length_toList, Array.length_toList, h.1]) fun j x u e1 e2 => ?_
  obtain ⟨c, t, hc, rfl⟩ := h.2 j u (by simpa using e2)
  unfold sgV at e1
  rw [List.getElem?_map, Array.getElem?_toList, hc] at e1
  cases e1
  exact ⟨_, rfl⟩
theorem sg_len (z : Str) : (sgV z).length = z.length := by unfold sgV; rw [List.length_map, Array.length_toList]; rfl
theorem call_list_s {X : Cx} (hc : X.calm = true) : CallR X (.type "list") (fun xs H Q => ∃ z, xs = [.str z] ∧ z.length ≤ sizeLine ∧ ∀ l, H l = none → Q (.ref l) (upd H l (.lst (sgV z)))) := by
  intro pins s σ H xs us Q I r h
  obtain ⟨z, rfl, hz, q⟩ := h
  obtain ⟨u, rfl, t, rfl⟩ := vals1 r
  refine call_list_str (I.ok.hd hc) z t (hn := hz) fun h' tk acc c' kp e hacc => ?_
  exact ⟨.ref s.heap.objs.size, _, I.laid (t' := tk) kp (Nat.le_refl _) (show ObjOk X.prog X.w _ h' _ (.lst (sgV z)) from ⟨by rw [sg_len]; exact hz, acc.toList, c', sg_vals hacc, by simpa using e⟩), rfl, q _ (I.hok.fresh (Nat.le_refl _))⟩
theorem call_tuple_s {X : Cx} (hc : X.calm = true) : CallR X (.type "tuple") (fun xs H Q => ∃ z, xs = [.str z] ∧ z.length ≤ sizeLine ∧ ∀ l, H l = none → Q (.ref l) (upd H l (.tup (sgV z)))) := by
  intro pins s σ H xs us Q I r h
  obtain ⟨z, rfl, hz, q⟩ := h
  obtain ⟨u, rfl, t, rfl⟩ := vals1 r
  refine call_tuple_str (I.ok.hd hc) z t (hsz := hz) fun h' tk acc kp hacc => ?_
  have I1 : Inv X pins σ H { s with heap := h' } := I.kept (t' := s.toks) kp
  have I2 : Inv X pins σ (upd H h'.objs.size (.tup (sgV z))) { s with heap := h'.push { cls := .type "tuple", data := .seq acc }, toks := tk } :=
    I1.laid (t' := tk) (fun b o e => Heap.get?_push_of_some _ e) (Nat.le_refl _) (show ObjOk X.prog X.w _ _ _ (.tup (sgV z)) from ⟨by rw [sg_len]; exact hz, acc.toList, sg_vals hacc, by rw [Array.toArray_toList]; exact IsTup.new h' acc⟩)
  exact ⟨.ref h'.objs.size, _, I2, rfl, q _ (I1.hok.fresh (Nat.le_refl _))⟩
/-- tuple, list of a row, of a text -/
def cTuple : DCl := fun ds P => match ds with
  | [.list x] => P (.da (.tuple x))
  | [.tuple x] => P (.da (.tuple x))
  | [.str x] => x.length ≤ sizeLine ∧ P (.da (.tuple (x.cps.toList.map sgn)))
  | _ => False
theorem cl_tuple (hc : X.calm = true) : DclOk J X (.type "tuple") cTuple := ⟨_, CallR.or call_tuple_of (call_tuple_s hc), fun n σ H H0 ρ vs ds P Q R hp w k => by
  match ds, w with
  | [.list x], w =>
    obtain ⟨v, rfl, h⟩ := paired1 hp
    obtain ⟨p, xs, rfl, s1, m1⟩ := h.lst R.sub
    refine .inl ⟨p, xs, rfl, .inl ⟨s1, fun l hl => ?_⟩⟩
    obtain ⟨r1, r2, r3⟩ := R.newT hl m1
    exact k _ _ _ _ r1 r2 r3 w
  | [.tuple x], w =>
    obtain ⟨v, rfl, h⟩ := paired1 hp
    obtain ⟨p, xs, rfl, s1, m1⟩ := h.tup
    exact .inl ⟨p, xs, rfl, .inr ⟨same_t R.sub s1, here k R (Dq.tup s1 m1) w⟩⟩
  | [.str x], w =>
    obtain ⟨v, rfl, h⟩ := paired1 hp
    have e := dp_str (h.dp fun _ z => by cases z)
    subst e
    refine .inr ⟨x, rfl, w.1, fun l hl => ?_⟩
    obtain ⟨r1, r2, r3⟩ := R.newT hl (sg_dqa x.cps.toList)
    exact k _ _ _ _ r1 r2 r3 w.2⟩
def cList : DCl := fun ds P => match ds with
  | [.list x] => P (.ow x)
  | [.tuple x] => P (.ow x)
  | [.str x] => x.length ≤ sizeLine ∧ P (.ow (x.cps.toList.map sgn))
  | _ => False
theorem cl_list (hc : X.calm = true) : DclOk J X (.type "list") cList := ⟨_, CallR.or call_list_of (call_list_s hc), fun n σ H H0 ρ vs ds P Q R hp w k => by
  match ds, w with
  | [.list x], w =>
    obtain ⟨v, rfl, h⟩ := paired1 hp
    obtain ⟨p, xs, rfl, s1, m1⟩ := h.lst R.sub
    refine .inl ⟨p, xs, rfl, .inl (s1), fun l hl => ?_⟩
    obtain ⟨r1, r2⟩ := R.newL hl m1
    exact k _ _ _ _ r1 (.refl _) r2 w
  | [.tuple x], w =>
    obtain ⟨v, rfl, h⟩ := paired1 hp
    obtain ⟨p, xs, rfl, s1, m1⟩ := h.tup
    refine .inl ⟨p, xs, rfl, .inr (same_t R.sub s1), fun l hl => ?_⟩
    obtain ⟨r1, r2⟩ := R.newL hl m1
    exact k _ _ _ _ r1 (.refl _) r2 w
  | [.str x], w =>
    obtain ⟨v, rfl, h⟩ := paired1 hp
    have e := dp_str (h.dp fun _ z => by cases z)
    subst e
    refine .inr ⟨x, rfl, w.1, fun l hl => ?_⟩
    obtain ⟨r1, r2⟩ := R.newL hl (sg_dqa x.cps.toList)
    exact k _ _ _ _ r1 (.refl _) r2 w.2⟩
/-- isinstance(e, T), T a built-in class -/
def tyD : D → String
  | .none => "NoneType"
  | .bool _ => "bool"
  | .int _ => "int"
  | .str _ => "str"
  | .list _ => "list"
  | .tuple _ => "tuple"
  | .dict _ => "dict"
theorem ty_v {K : PySem.W.Frag} {H : Hp} {x : V} {d : D} (h : Dq K H x d) : TyX K H x (.type (tyD d)) := by
  cases h with
  | non => exact .base .non
  | bl b => exact .base (.bl b)
  | int i => exact .base (.int i)
  | str x => exact .base (.str x)
  | lst h _ =>
    rcases h with (h | ⟨o, h⟩) | ⟨o, its, n, h1, h2, _⟩
    · exact .base (.lst h)
    · exact .base (.frz h)
    · exact .kList h1 h2
  | tup h _ =>
    rcases h with (h | ⟨o, h⟩) | ⟨o, its, n, h1, h2, _⟩
    · exact .base (.tup h)
    · exact .fTuple h
    · exact .kTuple h1 h2
def qIsi (T : String) (q : QD) : QD := fun ρ P => q ρ fun d ρ' => ∃ r, kitB (tyD d) T = some r ∧ P (.bool r) ρ'
theorem pd_isi {T : String} {q : QD} {x y : Str} {p p2 : Pos} (hg : Gl X x) (hm : X.mg x = none) (hv : bootBuiltins x = some (.builtin "isinstance")) (hg2 : Gl X y) (hm2 : X.mg y = none) (hv2 : bootBuiltins y = some (.type T)) (ha : PV J X e q)
    (hn : x ≠ "__name__" := by decide) (hdb : (x == ("__debug__" : Str)) = false := by decide) (hn2 : y ≠ "__name__" := by decide) (hdb2 : (y == ("__debug__" : Str)) = false := by decide)
    (he1 : starEach [e, .Name y p2] X.env = (false, eval e X.env) :: starEach [.Name y p2] X.env := by rfl) (he2 : starEach [.Name y p2] X.env = (false, eval (.Name y p2) X.env) :: starEach [] X.env := by rfl)
    (hpl : (backTo pos (starEach [.Name y p2] X.env)).any (·.1) = false := by rfl) (hcd : (y == ("__classdict__" : Str)) = false := by decide) :
    PD J X (.Call (.Name x p) [e, .Name y p2] [] pos) (qIsi T q) :=
  pe_mono (pe_callB call_isi hg hm hv (pa_cons ha (pa_cons (pe_bltn hg2 hm2 hv2 (v := .ty T) rfl hn2 hdb2) pa_nil he2) he1) hn hdb he1 hpl) fun σ H Q ⟨n, H0, ρ, P, R, w, k⟩ =>
    ⟨n, H0, ρ, _, R, w, fun v H1 H01 d ρ1 R1 S1 hd ⟨r, h1, w1⟩ => ⟨v, .ty T, .type (tyD d), .type T, r, rfl, .ty T, ty_v (hd.at R1.sub), kit_ty h1, k _ H1 H01 _ ρ1 R1 S1 (.bl _) w1⟩⟩
end
end Zd

set_option Elab.async false
set_option linter.all false
set_option maxRecDepth 100000
set_option maxHeartbeats 4000000
namespace Zd
open PySem PySem.Spec PyProof.Rows L2
/-! ### calls of the text's own defs -/
inductive A where
  | d (x : D)
  | n (i : Nat)
inductive Ag where
  | d (x : D)
  | j
abbrev QA := List Sl → (List A → List Sl → Prop) → Prop
def ArgOk (K : PySem.W.Frag) (σ : L2.St) (H0 : Hp) (v : V) : A → Prop
  | .d x => Dq K H0 v x
  | .n i => σ[i]? = some (some v)
def tA (K : PySem.W.Frag) (J : Jr) (q : QA) : TA := fun σ H Q => ∃ (n : En) (H0 : Hp) (ρ : List Sl) (P : List A → List Sl → Prop), Rp K J n σ H H0 ρ ∧ q ρ P ∧
  ∀ vs H' H0' as ρ', Rp K J n σ H' H0' ρ' → Same H0 H0' → Paired (ArgOk K σ H0') vs as → P as ρ' → Q vs H'
abbrev PAa (J : Jr) (X : Cx) (es : List Expr) (q : QA) : Prop := PA X es (tA X.K J q)
def resv (ρ : List Sl) : List A → Option (List Ag)
  | [] => some []
  | .d x :: r => (resv ρ r).map (Ag.d x :: ·)
  | .n i :: r => match ρ[i]? with
    | some (.da x) => (resv ρ r).map (Ag.d x :: ·)
    | some (.ow ds) => (resv ρ r).map (Ag.d (.list ds) :: ·)
    | some .ja => (resv ρ r).map (Ag.j :: ·)
    | _ => none
def frzs (ρ : List Sl) : List A → List Sl
  | [] => ρ
  | .d _ :: r => frzs ρ r
  | .n i :: r => frzs (frz ρ i) r
abbrev PPr := List Ag → (Sl → Prop) → Prop
/-- what is known behind a call: a flat result keeps no list -/
def behind (ρ : List Sl) (as : List A) (P : Sl → List Sl → Prop) (r : Sl) : Prop := match r with
  | .da d => if flatD d = true then P (.da d) ρ else P (.da d) (frzs ρ as)
  | r => P r (frzs ρ as)
/-- a wish that is not looked into till it is applied -/
inductive Seal (P : Sl → List Sl → Prop) : Type
  | mk
def hold (P : Sl → List Sl → Prop) (_ : Seal P) (ρ : List Sl) (as : List A) : Sl → Prop := behind ρ as P
theorem hold_app (P : Sl → List Sl → Prop) (k : Seal P) (ρ : List Sl) (as : List A) (x : Sl) : hold P k ρ as x = behind ρ as P x := rfl
def qCall (pp : PPr) (qa : QA) : QR := fun ρ P => qa ρ fun as ρ' => ∃ gs, resv ρ' as = some gs ∧ pp gs (hold P .mk ρ' as)
def AgOk (K : PySem.W.Frag) (H0 : Hp) (as : List Addr) (jv v : V) : Ag → Prop
  | .d x => Dq K H0 v x
  | .j => v = jv ∧ as ≠ []
/-- a def's promise over data -/
def spD (K : PySem.W.Frag) (J : Jr) (pp : PPr) : Sp := fun vs H Q _ => ∃ (H0 : Hp) (as : List Addr) (jv : V) (gs : List Ag), Same H0 H ∧ (as ≠ [] → J.is as jv H) ∧ (∀ a ∈ as, H0 a = none ∧ H a ≠ none) ∧
  Paired (AgOk K H0 as jv) vs gs ∧ ∃ R : Sl → Prop, pp gs R ∧ ∀ r v H', R r → RetOk K J ⟨H, H0, as, jv⟩ H' v r → Q v H'
section
variable {J : Jr} {K : PySem.W.Frag} {n : En} {σ : L2.St} {H H0 : Hp} {ρ : List Sl}
theorem frz_other (ρ : List Sl) (i j : Nat) (d : D) (h : ρ[j]? = some (.da d)) : (frz ρ i)[j]? = some (.da d) := by
  unfold frz
  cases e : ρ[i]? with
  | none => exact h
  | some s =>
    cases s with
    | ow ds =>
      show (ρ.set i _)[j]? = _
      rw [get_set]
      by_cases q : i = j
      · subst q; rw [e] at h; cases h
      · rw [if_neg q]; exact h
    | _ => exact h
theorem frz_ja (ρ : List Sl) (i j : Nat) (h : ρ[j]? = some .ja) : (frz ρ i)[j]? = some .ja := by
  unfold frz
  cases e : ρ[i]? with
  | none => exact h
  | some s =>
    cases s with
    | ow ds =>
      show (ρ.set i _)[j]? = _
      rw [get_set]
      by_cases q : i = j
      · subst q; rw [e] at h; cases h
      · rw [if_neg q]; exact h
    | _ => exact h
/-- the arguments' lists are data while the callee runs -/
theorem Rp.args (hs : Same H0 H0) : ∀ (as : List A) (ρ : List Sl) (H0 : Hp) (vs : List V) (gs : List Ag), Rp K J n σ H H0 ρ → Paired (ArgOk K σ H0) vs as → resv ρ as = some gs →
    ∃ H0', Same H0 H0' ∧ Rp K J n σ H H0' (frzs ρ as) ∧ Paired (AgOk K H0' n.as n.jv) vs gs := by
  -- first freeze all, then read all
  have step : ∀ (as : List A) (ρ : List Sl) (H0 : Hp), Rp K J n σ H H0 ρ → ∃ H0', Same H0 H0' ∧ Rp K J n σ H H0' (frzs ρ as) := by
    intro as
    induction as with
    | nil => exact fun ρ H0 R => ⟨H0, .refl _, R⟩
    | cons a r ih =>
      intro ρ H0 R
      cases a with
      | d x => exact ih ρ H0 R
      | n i =>
        obtain ⟨H1, S1, R1, _⟩ := R.frz1 i
        obtain ⟨H2, S2, R2⟩ := ih _ H1 R1
        exact ⟨H2, S1.trans S2, R2⟩
  have keepd : ∀ (as : List A) (ρ : List Sl) (j : Nat) (d : D), ρ[j]? = some (.da d) → (frzs ρ as)[j]? = some (.da d) := by
    intro as
    induction as with
    | nil => exact fun ρ j d h => h
    | cons a r ih =>
      intro ρ j d h
      cases a with
      | d x => exact ih ρ j d h
      | n i => exact ih _ j d (frz_other ρ i j d h)
  have keepj : ∀ (as : List A) (ρ : List Sl) (j : Nat), ρ[j]? = some .ja → (frzs ρ as)[j]? = some .ja := by
    intro as
    induction as with
    | nil => exact fun ρ j h => h
    | cons a r ih =>
      intro ρ j h
      cases a with
      | d x => exact ih ρ j h
      | n i => exact ih _ j (frz_ja ρ i j h)
  have keepo : ∀ (as : List A) (ρ : List Sl) (j : Nat) (ds : List D), ρ[j]? = some (.ow ds) → (frzs ρ as)[j]? = some (.ow ds) ∨ (frzs ρ as)[j]? = some (.da (.list ds)) := by
    intro as
    induction as with
    | nil => exact fun ρ j ds h => .inl h
    | cons a r ih =>
      intro ρ j ds h
      cases a with
      | d x => exact ih ρ j ds h
      | n i =>
        by_cases q : i = j
        · subst q
          have e : (frz ρ i)[i]? = some (.da (.list ds)) := by
            unfold frz
            rw [h]
            show (ρ.set i _)[i]? = _
            rw [get_set, if_pos rfl, if_pos (List.getElem?_eq_some_iff.mp h).1]
          exact .inr (keepd r _ i _ e)
        · have e : (frz ρ i)[j]? = some (.ow ds) := by
            unfold frz
            cases z : ρ[i]? with
            | none => exact h
            | some s =>
              cases s with
              | ow es =>
                show (ρ.set i _)[j]? = _
                rw [get_set, if_neg q]
                exact h
              | _ => exact h
          exact ih _ j ds e
  have named : ∀ (as : List A) (ρ : List Sl) (j : Nat) (ds : List D), .n j ∈ as → ρ[j]? = some (.ow ds) → (frzs ρ as)[j]? = some (.da (.list ds)) := by
    intro as
    induction as with
    | nil => exact fun ρ j ds h _ => nomatch h
    | cons a r ih =>
      intro ρ j ds hm h
      cases a with
      | d x =>
        rcases List.mem_cons.mp hm with q | q
        · cases q
        · exact ih ρ j ds q h
      | n i =>
        by_cases q : i = j
        · subst q
          refine keepd r _ i _ ?_
          unfold frz
          rw [h]
          show (ρ.set i _)[i]? = _
          rw [get_set, if_pos rfl, if_pos (List.getElem?_eq_some_iff.mp h).1]
        · have hm' : A.n j ∈ r := by
            rcases List.mem_cons.mp hm with w | w
            · cases w; exact absurd rfl q
            · exact w
          refine ih _ j ds hm' ?_
          unfold frz
          cases z : ρ[i]? with
          | none => exact h
          | some s =>
            cases s with
            | ow es =>
              show (ρ.set i _)[j]? = _
              rw [get_set, if_neg q]
              exact h
            | _ => exact h
  intro as ρ H0 vs gs R hp hr
  obtain ⟨H0', S', R'⟩ := step as ρ H0 R
  refine ⟨H0', S', R', ?_⟩
  have all : ∀ (bs : List A), (∀ b ∈ bs, b ∈ as) → ∀ (us : List V) (hs : List Ag), Paired (ArgOk K σ H0) us bs → resv ρ bs = some hs → Paired (AgOk K H0' n.as n.jv) us hs := by
    intro bs
    induction bs with
    | nil =>
      intro _ us hs h1 h2
      cases h1
      cases h2
      exact .nil
    | cons b r ih =>
      intro hm us hs h1 h2
      have hm' : ∀ c ∈ r, c ∈ as := fun c hc => hm c (List.mem_cons_of_mem _ hc)
      cases h1 with
      | @cons v _ vr _ p1 p2 =>
        cases b with
        | d x =>
          unfold resv at h2
          cases e : resv ρ r with
          | none => rw [e] at h2; cases h2
          | some hr =>
            rw [e] at h2
            cases h2
            exact .cons (dp_mono S' x v p1) (ih hm' vr hr p2 e)
        | n i =>
          have p1' : σ[i]? = some (some v) := p1
          unfold resv at h2
          cases z : ρ[i]? with
          | none => rw [z] at h2; cases h2
          | some s =>
            rw [z] at h2
            cases s with
            | un => cases h2
            | da x =>
              cases e : resv ρ r with
              | none => rw [e] at h2; cases h2
              | some hr =>
                rw [e] at h2
                cases h2
                obtain ⟨u, w1, w2⟩ := R'.sl i _ (keepd as ρ i x z)
                rw [p1'] at w1
                cases w1
                exact .cons w2 (ih hm' vr hr p2 e)
            | ow ds =>
              cases e : resv ρ r with
              | none => rw [e] at h2; cases h2
              | some hr =>
                rw [e] at h2
                cases h2
                obtain ⟨u, w1, w2⟩ := R'.sl i _ (named as ρ i ds (hm _ (List.mem_cons_self ..)) z)
                rw [p1'] at w1
                cases w1
                exact .cons w2 (ih hm' vr hr p2 e)
            | od ds => cases h2
            | ja =>
              cases e : resv ρ r with
              | none => rw [e] at h2; cases h2
              | some hr =>
                rw [e] at h2
                cases h2
                obtain ⟨w1, w2⟩ := R'.sl i _ (keepj as ρ i z)
                rw [p1'] at w1
                cases w1
                exact .cons ⟨rfl, w2⟩ (ih hm' vr hr p2 e)
            | jo c => cases h2
  exact all as (fun _ h => h) vs gs hp hr
theorem Rp.jarOk (R : Rp K J n σ H H0 ρ) : ∀ a ∈ n.as, H0 a = none ∧ H a ≠ none := fun a ha => ⟨R.jh0 ha, R.hej (R.jdom a ha).2⟩
/-- behind a call -/
theorem Rp.call {H' : Hp} {v : V} {r : Sl} (hj : J.jx = none) (R : Rp K J n σ H H0 ρ) (h : RetOk K J ⟨H, H0, n.as, n.jv⟩ H' v r) : ∃ H0', Same H0 H0' ∧ Rp K J n σ H' H0' ρ ∧ ResOk K n σ ρ H' H0' v r := by
  obtain ⟨H0', h1, h2, h3, h4, h5, h6⟩ := h
  have h2 : ∀ (a : Addr) (o : HO), a ∉ n.as → H a = some o → H' a = some o := h2
  have h3 : Same H0 H0' := h3
  have h4 : ∀ (a : Addr), H0 a = none → H a ≠ none → H0' a = none := h4
  have h5 : n.as ≠ [] → J.is n.as n.jv H' := h5
  have na : ∀ a, n.He a = none → a ∉ n.as := fun a e ha => (R.jdom a ha).2 e
  refine ⟨H0', h3, ⟨R.len, h1, fun i s e => ?_, R.sep, fun a o ha e => h2 a o ha (R.fr a o ha e), R.base.trans h3, fun a e1 e2 => h4 a (R.fresh a e1 e2) (R.hej e2), h5, R.jdom, R.jx⟩, ?_⟩
  · have q := R.sl i s e
    cases s with
    | un => trivial
    | da d => obtain ⟨u, w1, w2⟩ := q; exact ⟨u, w1, dp_mono h3 d u w2⟩
    | ow ds =>
      obtain ⟨a, xs, w1, w2, w3, w4, w5⟩ := q
      exact ⟨a, xs, w1, h2 a _ (na a w5) w2, dpa_mono h3 _ xs w3, h4 a w4 (by rw [w2]; intro z; cases z), w5⟩
    | od ds =>
      obtain ⟨a, xs, w1, w2, w3, w4, w5⟩ := q
      exact ⟨a, xs, w1, h2 a _ (na a w5) w2, dpa_mono h3 _ xs w3, h4 a w4 (by rw [w2]; intro z; cases z), w5⟩
    | ja => exact q
    | jo c => exact absurd ((R.jx i c e).symm.trans hj) (by intro z; cases z)
  · cases r with
    | un => exact h6
    | da d => exact h6
    | ow ds =>
      obtain ⟨a, xs, rfl, w2, w3, w4, w5, _⟩ := h6
      have w5 : H a = none := w5
      exact ⟨a, xs, rfl, w2, w3, w4, R.he0 w5, R.new w5⟩
    | od ds =>
      obtain ⟨a, xs, rfl, w2, w3, w4, w5, _⟩ := h6
      have w5 : H a = none := w5
      exact ⟨a, xs, rfl, w2, w3, w4, R.he0 w5, R.od_new w5⟩
    | ja => exact h6
    | jo c => exact h6
/-- behind a call with a flat result: all stands as it stood -/
theorem Rp.callF {H' H0f : Hp} {v : V} {r : Sl} {ρf : List Sl} (hj : J.jx = none) (R : Rp K J n σ H H0 ρ) (Rf : Rp K J n σ H H0f ρf) (h : RetOk K J ⟨H, H0f, n.as, n.jv⟩ H' v r) : Rp K J n σ H' H0 ρ := by
  obtain ⟨H0', h1, h2, h3, h4, h5, h6⟩ := h
  have h2 : ∀ (a : Addr) (o : HO), a ∉ n.as → H a = some o → H' a = some o := h2
  have h5 : n.as ≠ [] → J.is n.as n.jv H' := h5
  have na : ∀ a, n.He a = none → a ∉ n.as := fun a e ha => (R.jdom a ha).2 e
  refine ⟨R.len, fun a o e => ?_, fun i s e => ?_, R.sep, fun a o ha e => h2 a o ha (R.fr a o ha e), R.base, R.fresh, h5, R.jdom, R.jx⟩
  · refine h2 a o (fun ha => ?_) (R.sub a o e)
    rw [R.jh0 ha] at e
    cases e
  · have q := R.sl i s e
    cases s with
    | un => trivial
    | da d => exact q
    | ow ds =>
      obtain ⟨a, xs, w1, w2, w3, w4, w5⟩ := q
      exact ⟨a, xs, w1, h2 a _ (na a w5) w2, w3, w4, w5⟩
    | od ds =>
      obtain ⟨a, xs, w1, w2, w3, w4, w5⟩ := q
      exact ⟨a, xs, w1, h2 a _ (na a w5) w2, w3, w4, w5⟩
    | ja => exact q
    | jo c => exact absurd ((R.jx i c e).symm.trans hj) (by intro z; cases z)
theorem flat_any {v : V} {d : D} {H1 : Hp} (h : Dq K H v d) (f : flatD d = true) : Dq K H1 v d := by
  cases d with
  | none => cases h; exact .non
  | bool _ => cases h; exact .bl _
  | int _ => cases h; exact .int _
  | str _ => cases h; exact .str _
  | _ => cases f
end
section
variable {X : Cx} {J : Jr} {e a b c : Expr} {es : List Expr} {pos : Pos}
/-- a slot that may be handed on -/
def given (ρ : List Sl) (i : Nat) : Prop := match ρ[i]? with
  | some (.da _) => True
  | some (.ow _) => True
  | some .ja => True
  | _ => False
def qaNil : QA := fun ρ P => P [] ρ
def qaD (qa : QD) (qr : QA) : QA := fun ρ P => qa ρ fun d ρ1 => qr ρ1 fun as ρ2 => P (.d d :: as) ρ2
def qaN (i : Nat) (qr : QA) : QA := fun ρ P => given ρ i ∧ qr ρ fun as ρ2 => P (.n i :: as) ρ2
theorem paa_nil : PAa J X [] qaNil := pa_mono pa_nil fun σ H Q ⟨n, H0, ρ, P, R, w, k⟩ => k [] H H0 [] ρ R (.refl _) .nil w
theorem arg_mono {K : PySem.W.Frag} {σ : L2.St} {H0 H0' : Hp} (S : Same H0 H0') {v : V} {x : A} (h : ArgOk K σ H0 v x) : ArgOk K σ H0' v x := by
  cases x with
  | d d => exact dp_mono S d v h
  | n i => exact h
theorem paa_d {qa : QD} {qr : QA} (ha : PD J X e qa) (hr : PAa J X es qr) (hs : starEach (e :: es) X.env = (false, eval e X.env) :: starEach es X.env := by rfl) : PAa J X (e :: es) (qaD qa qr) :=
  pa_mono (pa_cons ha hr hs) fun σ H Q ⟨n, H0, ρ, P, R, w, k⟩ => ⟨n, H0, ρ, _, R, w, fun x H1 H01 d ρ1 R1 S1 hd w1 => ⟨n, H01, ρ1, _, R1, w1, fun xs H2 H02 as ρ2 R2 S2 hds w2 =>
    k (x :: xs) H2 H02 (.d d :: as) ρ2 R2 (S1.trans S2) (.cons (dp_mono S2 d x hd) hds) w2⟩⟩
theorem Rp.givenV {K : PySem.W.Frag} {n : En} {σ : L2.St} {H H0 : Hp} {ρ : List Sl} (R : Rp K J n σ H H0 ρ) {i : Nat} (h : given ρ i) : ∃ v, σ[i]? = some (some v) := by
  unfold given at h
  cases e : ρ[i]? with
  | none => rw [e] at h; exact h.elim
  | some s =>
    rw [e] at h
    have q := R.sl i s e
    cases s with
    | un => exact h.elim
    | ja => exact ⟨_, q.1⟩
    | jo c => exact ⟨_, q.1⟩
    | da d => obtain ⟨v, h1, _⟩ := q; exact ⟨v, h1⟩
    | ow ds => obtain ⟨a, xs, h1, _⟩ := q; exact ⟨_, h1⟩
    | od ds => obtain ⟨a, xs, h1, _⟩ := q; exact ⟨_, h1⟩
theorem paa_n {i : Nat} {qr : QA} (ha : PE X e (tVar i)) (hr : PAa J X es qr) (hs : starEach (e :: es) X.env = (false, eval e X.env) :: starEach es X.env := by rfl) : PAa J X (e :: es) (qaN i qr) :=
  pa_mono (pa_cons ha hr hs) fun σ H Q ⟨n, H0, ρ, P, R, w, k⟩ => by
    obtain ⟨v, hv⟩ := R.givenV w.1
    exact ⟨v, hv, n, H0, ρ, _, R, w.2, fun xs H2 H02 as ρ2 R2 S2 hds w2 => k (v :: xs) H2 H02 (.n i :: as) ρ2 R2 S2 (.cons hv hds) w2⟩
theorem call_mono {pp : PPr} {qa : QA} (hj : J.jx = none) : ∀ σ H Q, tR X.K J (qCall pp qa) σ H Q → tCall (spD X.K J pp) [] E0 (tA X.K J qa) σ H Q := fun σ H Q ⟨n, H0, ρ, P, R, w, k⟩ =>
  ⟨n, H0, ρ, _, R, w, fun vs H1 H01 as ρ1 R1 S1 ha ⟨gs, hg, w1⟩ => by
    obtain ⟨H0f, Sf, Rf, hf⟩ := Rp.args (.refl H01) as ρ1 H01 vs gs R1 ha hg
    rw [List.append_nil]
    refine ⟨H0f, n.as, n.jv, gs, Rf.sub, R1.jar, Rf.jarOk, hf, _, w1, fun r v H' hb hr => ?_⟩
    have hb : behind ρ1 as P r := hb
    have gen : P r (frzs ρ1 as) → Q v H' := fun hp => by
      obtain ⟨H0', S', R', hres⟩ := Rf.call hj hr
      exact k v H' H0' r _ R' ((S1.trans Sf).trans S') hres hp
    cases r with
    | da d =>
      have hb' : if flatD d = true then P (.da d) ρ1 else P (.da d) (frzs ρ1 as) := hb
      by_cases f : flatD d = true
      · rw [if_pos f] at hb'
        have R' := R1.callF hj Rf hr
        obtain ⟨H0', _, _, _, _, _, h6⟩ := hr
        exact k v H' H01 (.da d) ρ1 R' S1 (flat_any h6 f) hb'
      · rw [if_neg f] at hb'
        exact gen hb'
    | un => exact gen hb
    | ow ds => exact gen hb
    | od ds => exact gen hb
    | ja => exact gen hb
    | jo c => exact gen hb⟩
theorem pr_call {pp : PPr} {qa : QA} {k : Nat} {f : Addr} {fd : FuncData} {ps : List Str} {x : Str} {p : Pos} (hj : J.jx = none) (F : FnOk X.prog X.w X.K X.mg X.base CX0 k f fd ps (spD X.K J pp)) (hr : Room k X.A) (hg : Gl X x) (hm : X.mg x = some (.ref f)) (hk : PySem.W.keepIn X.K (.ref f) = true) (hb : Binds X.K fd ps [])
    (ha : PAa J X (e :: es) qa) (hdb : (x == ("__debug__" : Str)) = false := by decide) (he : starEach (e :: es) X.env = (false, eval e X.env) :: starEach es X.env := by rfl) (hpl : (backTo pos (starEach es X.env)).any (·.1) = false := by rfl) :
    PR J X (.Call (.Name x p) (e :: es) [] pos) (qCall pp qa) := pe_mono (pe_call F hr hg hm hk hb .nil pass0 ha hdb he hpl) (call_mono hj)

/-! ### methods of the def's own lists; join -/
def qApp (i : Nat) (qa : QD) : QR := fun ρ P => (∃ ds, ρ[i]? = some (.ow ds)) ∧ qa ρ fun d ρ' => match ρ'[i]? with
  | some (.ow ds) => ds.length < sizeLine ∧ P (.da .none) (ρ'.set i (.ow (ds ++ [d])))
  | _ => False
theorem app_mono {i : Nat} {qa : QD} : ∀ σ H Q, tR X.K J (qApp i qa) σ H Q → tBM X.K "list" rAppend (tVar i) (tCons (tD X.K J qa) tNil) σ H Q := fun σ H Q ⟨n, H0, ρ, P, R, ⟨⟨ds, e⟩, w⟩, k⟩ => by
  obtain ⟨a, xs, h1, h2, h3, h4, h5⟩ := R.sl i _ e
  refine ⟨_, h1, .inl ⟨rfl, xs, SqL.of h2⟩, n, H0, ρ, _, R, w, fun v H1 H01 d ρ1 R1 S1 hd w1 => ?_⟩
  cases e1 : ρ1[i]? with
  | none => rw [e1] at w1; exact w1.elim
  | some s =>
    rw [e1] at w1
    cases s with
    | ow es =>
      obtain ⟨b, ys, g1, g2, g3, g4, g5⟩ := R1.sl i _ e1
      rw [h1] at g1
      cases g1
      have hx := dpa_app g3 (dpa_one hd)
      exact ⟨a, ys, v, rfl, rfl, g2, by rw [dpa_len g3]; exact w1.1, k _ _ H01 (.da .none) _ (R1.own_put e1 h1 hx) S1 .non w1.2⟩
    | _ => exact w1.elim
theorem pr_app {i : Nat} {qa : QD} {o : Expr} {apos : Pos} (ho : PE X o (tVar i)) (ha : PD J X e qa)
    (hbase : attributeBase o "append" X.env (eval o X.env) = eval o X.env := by rfl)
    (hfew : ((backTo pos (starEach [e] X.env)).all (fun x => !x.1) && (backToKw pos (keywordEach [] X.env)).all (fun x => x.1.isSome) && decide ([e].length + ([] : List Keyword).length + (if ([] : List Keyword).isEmpty then 0 else 1) < 30)) = true := by rfl)
    (hline : (apos.endLine == pos.line) = true := by rfl) (hs : starEach [e] X.env = (false, eval e X.env) :: starEach [] X.env := by rfl) (hplain : (backTo pos (starEach [] X.env)).any (·.1) = false := by rfl) :
    PR J X (.Call (.Attribute o "append" apos) [e] [] pos) (qApp i qa) :=
  pe_mono (pe_bm PySem.F.plainAttrs_list PySem.F.slot_list_append PySem.F.type_list_append mt_append ho (pa_cons ha pa_nil hs) hbase hfew hline hs hplain) app_mono
/-- extend by a new list -/
def qExt (i : Nat) (qa : QR) : QR := fun ρ P => (∃ ds, ρ[i]? = some (.ow ds)) ∧ qa ρ fun r ρ' => match r with
  | .ow es => (match ρ'[i]? with
    | some (.ow ds) => ds.length + es.length ≤ sizeLine ∧ P (.da .none) (ρ'.set i (.ow (ds ++ es)))
    | _ => False)
  | _ => False
theorem ext_mono {i : Nat} {qa : QR} : ∀ σ H Q, tR X.K J (qExt i qa) σ H Q → tBM X.K "list" rExtend (tVar i) (tCons (tR X.K J qa) tNil) σ H Q := fun σ H Q ⟨n, H0, ρ, P, R, ⟨⟨ds, e⟩, w⟩, k⟩ => by
  obtain ⟨a, xs, h1, h2, h3, h4, h5⟩ := R.sl i _ e
  refine ⟨_, h1, .inl ⟨rfl, xs, SqL.of h2⟩, n, H0, ρ, _, R, w, fun v H1 H01 r ρ1 R1 S1 hd w1 => ?_⟩
  cases r with
  | ow cs =>
    obtain ⟨b, zs, rfl, z1, z2, _⟩ := hd
    cases e1 : ρ1[i]? with
    | none =>
      have w2 : (match ρ1[i]? with | some (.ow ds) => _ | _ => False) := w1
      rw [e1] at w2
      exact w2.elim
    | some s =>
      have w2 : (match ρ1[i]? with | some (.ow ds) => ds.length + cs.length ≤ sizeLine ∧ P (.da .none) (ρ1.set i (.ow (ds ++ cs))) | _ => False) := w1
      rw [e1] at w2
      cases s with
      | ow es =>
        obtain ⟨b', ys, g1, g2, g3, g4, g5⟩ := R1.sl i _ e1
        rw [h1] at g1
        cases g1
        have hx := dpa_app g3 z2
        exact ⟨a, b, ys, zs, rfl, rfl, g2, z1, by rw [dpa_len g3, dpa_len z2]; exact w2.1, k _ _ H01 (.da .none) _ (R1.own_put e1 h1 hx) S1 .non w2.2⟩
      | _ => exact w2.elim
  | _ => exact w1.elim
theorem pr_ext {i : Nat} {qa : QR} {o : Expr} {apos : Pos} (ho : PE X o (tVar i)) (ha : PR J X e qa)
    (hbase : attributeBase o "extend" X.env (eval o X.env) = eval o X.env := by rfl)
    (hfew : ((backTo pos (starEach [e] X.env)).all (fun x => !x.1) && (backToKw pos (keywordEach [] X.env)).all (fun x => x.1.isSome) && decide ([e].length + ([] : List Keyword).length + (if ([] : List Keyword).isEmpty then 0 else 1) < 30)) = true := by rfl)
    (hline : (apos.endLine == pos.line) = true := by rfl) (hs : starEach [e] X.env = (false, eval e X.env) :: starEach [] X.env := by rfl) (hplain : (backTo pos (starEach [] X.env)).any (·.1) = false := by rfl) :
    PR J X (.Call (.Attribute o "extend" apos) [e] [] pos) (qExt i qa) :=
  pe_mono (pe_bm PySem.F.plainAttrs_list PySem.F.slot_list_extend PySem.F.type_list_extend mt_extend ho (pa_cons ha pa_nil hs) hbase hfew hline hs hplain) ext_mono
/-- x.pop() -/
def qPop (i : Nat) : QR := fun ρ P => match ρ[i]? with
  | some (.ow ds) => ∃ d, ds.getLast? = some d ∧ P (.da d) (ρ.set i (.ow ds.dropLast))
  | _ => False
theorem dpa_dropLast {K : PySem.W.Frag} {H : Hp} {xs : List V} {ds : List D} (h : DqAll K H xs ds) : DqAll K H xs.dropLast ds.dropLast := by
  rw [List.dropLast_eq_take, List.dropLast_eq_take, dpa_len h]
  exact dpa_take _ h
theorem pop_mono {i : Nat} : ∀ σ H Q, tR X.K J (qPop i) σ H Q → tBM0 X.K "list" rPop (tVar i) σ H Q := fun σ H Q ⟨n, H0, ρ, P, R, w, k⟩ => by
  unfold qPop at w
  cases e : ρ[i]? with
  | none => rw [e] at w; exact w.elim
  | some s =>
    rw [e] at w
    cases s with
    | ow ds =>
      obtain ⟨d, hd, hp⟩ := w
      obtain ⟨a, xs, h1, h2, h3, h4, h5⟩ := R.sl i _ e
      rw [List.getLast?_eq_getElem?, ← dpa_len h3] at hd
      obtain ⟨v, hv, hdv⟩ := dpa_get' h3 hd
      exact ⟨_, h1, .inl ⟨rfl, xs, SqL.of h2⟩, a, xs, v, rfl, rfl, h2, hv, k v _ H0 (.da d) _ (R.own_put e h1 (dpa_dropLast h3)) (.refl _) hdv hp⟩
    | _ => exact w.elim
theorem pr_pop {i : Nat} {o : Expr} {apos : Pos} (ho : PE X o (tVar i)) (hbase : attributeBase o "pop" X.env (eval o X.env) = eval o X.env := by rfl) (hline : (apos.endLine == pos.line) = true := by rfl) :
    PR J X (.Call (.Attribute o "pop" apos) [] [] pos) (qPop i) :=
  pe_mono (pe_bm0 PySem.F.plainAttrs_list PySem.F.slot_list_pop PySem.F.type_list_pop mt_pop ho hbase hline) pop_mono
/-- x.bit_length() -/
def bitsI (i : Int) : Int := (Builtin.Int.intBits i : Int)
/-- s.join(row of texts) -/
def strD : D → Option Str
  | .str x => some x
  | _ => none
def strsD : List D → Option (List Str)
  | [] => some []
  | .str x :: r => (strsD r).map (x :: ·)
  | _ :: _ => none
theorem strs_v {K : PySem.W.Frag} {H : Hp} : ∀ {ds : List D} {xs : List V} {ys : List Str}, DqAll K H xs ds → strsD ds = some ys → xs = ys.map V.str
  | [], _, _, h, e => by cases h; cases e; rfl
  | .str x :: r, _, ys, h, e => by
    cases h with
    | cons h1 h2 =>
      unfold strsD at e
      cases z : strsD r with
      | none => rw [z] at e; cases e
      | some zs =>
        rw [z] at e
        cases e
        cases h1
        rw [strs_v h2 z]
        rfl
  | .none :: _, _, _, _, e => by cases e
  | .bool _ :: _, _, _, _, e => by cases e
  | .int _ :: _, _, _, _, e => by cases e
  | .list _ :: _, _, _, _, e => by cases e
  | .tuple _ :: _, _, _, _, e => by cases e
  | .dict _ :: _, _, _, _, e => by cases e
def rowD : D → Option (List D)
  | .list ds => some ds
  | .tuple ds => some ds
  | _ => none
def qJoin (qo qe : QD) : QD := fun ρ P => qo ρ fun d ρ1 => ∃ a, d = .str a ∧ qe ρ1 fun e ρ2 => ∃ ds ys, rowD e = some ds ∧ strsD ds = some ys ∧ (ys.map (·.length)).sum + ys.length * a.length ≤ 16777216 ∧ P (.str (Txt.join a ys)) ρ2
theorem pd_join {qo qe : QD} {o : Expr} {apos : Pos} (ho : PD J X o qo) (he : PV J X e qe) (hs : starEach [e] X.env = [(false, eval e X.env)] := by rfl) (hbase : attributeBase o "join" X.env (eval o X.env) = eval o X.env := by rfl)
    (hline : (apos.endLine == pos.line) = true := by rfl) : PD J X (.Call (.Attribute o "join" apos) [e] [] pos) (qJoin qo qe) :=
  pe_mono (pe_join ho he hs hbase hline) fun σ H Q ⟨n, H0, ρ, P, R, w, k⟩ => ⟨n, H0, ρ, _, R, w, fun v H1 H01 d ρ1 R1 S1 hd w1 => by
    obtain ⟨a, rfl, w1⟩ := w1
    have ev := dp_str hd
    subst ev
    refine ⟨⟨a, rfl⟩, n, H01, ρ1, _, R1, w1, fun u H2 H02 f ρ2 R2 S2 hf ⟨ds, ys, e2, e3, e4, w2⟩ => ?_⟩
    · skip
      have hx : ∃ p xs, u = .ref p ∧ (SqL X.K H2 p xs ∨ SqT X.K H2 p xs) ∧ DqAll X.K H02 xs ds := by
        cases f with
        | list cs =>
          cases e2
          obtain ⟨p, xs, q1, q2, q3⟩ := hf.lst R2.sub
          exact ⟨p, xs, q1, .inl q2, q3⟩
        | tuple cs =>
          cases e2
          obtain ⟨p, xs, q1, q2, q3⟩ := hf.tup
          exact ⟨p, xs, q1, .inr (same_t R2.sub q2), q3⟩
        | _ => cases e2
      obtain ⟨p, xs, rfl, q2, q3⟩ := hx
      have q4 := strs_v q3 e3
      subst q4
      exact ⟨a, p, ys, rfl, rfl, q2, e4, k _ H2 H02 _ ρ2 R2 (S1.trans S2) (.str _) w2⟩⟩
end
end Zd

set_option Elab.async false
set_option linter.all false
set_option maxRecDepth 100000
set_option maxHeartbeats 4000000
namespace Zd
open PySem PySem.Spec PyProof.Rows L2
/-! ### what a for walks -/
def ItOk (K : PySem.W.Frag) (J' : It) (H0 : Hp) (items : List D) : Prop :=
  (∀ i Hc, Same H0 Hc → i < items.length → J'.go i Hc) ∧ (∀ i Hc, Same H0 Hc → items.length ≤ i → J'.stop i Hc) ∧
  (∀ i Hc H0c x H' d, Same H0 H0c → Same H0c Hc → items[i]? = some d → J'.yld i Hc x H' → (H' = Hc ∧ Dq K H0c x d) ∨ ∃ T xs, Hc T = none ∧ H' = upd Hc T (.tup xs) ∧ Dq K (upd H0c T (.tup xs)) x d)
def tI (K : PySem.W.Frag) (J : Jr) (q : QL) : TI := fun σ H R => ∃ (n : En) (H0 : Hp) (ρ : List Sl) (P : List D → List Sl → Prop), Rp K J n σ H H0 ρ ∧ q ρ P ∧
  ∀ J' H' H0' items ρ', Rp K J n σ H' H0' ρ' → Same H0 H0' → ItOk K J' H0' items → P items ρ' → R J' H'
section
variable {X : Cx} {J : Jr} {e a b c tg : Expr} {es : List Expr} {pos : Pos}
abbrev PIt (J : Jr) (X : Cx) (tg e : Expr) (q : QL) : Prop := PI X tg e (tI X.K J q)
theorem pi_mono {w w' : TI} (h : PI X tg e w) (i : ∀ σ H R, w' σ H R → w σ H R) : PI X tg e w' := ⟨fun pins s σ H R I z => h.run pins s σ H R I (i _ _ _ z)⟩
theorem pi_or {w w' : TI} (h : PI X tg e w) (h' : PI X tg e w') : PI X tg e (fun σ H R => w σ H R ∨ w' σ H R) := ⟨fun pins s σ H R I z => z.elim (h.run pins s σ H R I) (h'.run pins s σ H R I)⟩
def itemsD : D → Option (List D)
  | .list ds => some ds
  | .tuple ds => some ds
  | .str x => some (x.cps.toList.map sgn)
  | _ => none
theorem it_list {K : PySem.W.Frag} {H0 : Hp} {p : Addr} {xs : List V} {ds : List D} (h : SqL K H0 p xs) (hd : DqAll K H0 xs ds) : ItOk K (Itl K p) H0 ds := by
  refine ⟨fun i Hc S hi => ?_, fun i Hc S hi => ⟨xs, S.seq h, by rw [dpa_len hd]; exact hi⟩, fun i Hc H0c x H' d S1 S2 hi hy => ?_⟩
  · have hi' : i < xs.length := by rw [dpa_len hd]; exact hi
    exact ⟨xs, xs[i], S.seq h, List.getElem?_eq_getElem hi'⟩
  · obtain ⟨rfl, hy⟩ := hy
    obtain ⟨u, hv, hdv⟩ := dpa_get' hd hi
    have q := hy xs ((S1.trans S2).seq h)
    rw [hv] at q
    cases q
    exact .inl ⟨rfl, dp_mono S1 d _ hdv⟩
theorem it_tup {K : PySem.W.Frag} {H0 : Hp} {p : Addr} {xs : List V} {ds : List D} (h : SqT K H0 p xs) (hd : DqAll K H0 xs ds) : ItOk K (Itt K p) H0 ds := by
  refine ⟨fun i Hc S hi => ?_, fun i Hc S hi => ⟨xs, same_t S h, by rw [dpa_len hd]; exact hi⟩, fun i Hc H0c x H' d S1 S2 hi hy => ?_⟩
  · have hi' : i < xs.length := by rw [dpa_len hd]; exact hi
    exact ⟨xs, xs[i], same_t S h, List.getElem?_eq_getElem hi'⟩
  · obtain ⟨rfl, hy⟩ := hy
    obtain ⟨u, hv, hdv⟩ := dpa_get' hd hi
    have q := hy xs (same_t (S1.trans S2) h)
    rw [hv] at q
    cases q
    exact .inl ⟨rfl, dp_mono S1 d _ hdv⟩
theorem it_str {K : PySem.W.Frag} {H0 : Hp} {z : Str} : ItOk K (Its z) H0 (z.cps.toList.map sgn) := by
  refine ⟨fun i Hc S hi => ?_, fun i Hc S hi => ?_, fun i Hc H0c x H' d S1 S2 hi hy => ?_⟩
  · rw [List.length_map, Array.length_toList] at hi; exact hi
  · rw [List.length_map, Array.length_toList] at hi; exact hi
  · obtain ⟨rfl, c, hc, rfl⟩ := hy
    rw [List.getElem?_map, Array.getElem?_toList, hc] at hi
    cases hi
    exact .inl ⟨rfl, .str _⟩
def qItD (q : QD) : QL := fun ρ P => q ρ fun d ρ' => ∃ ds, itemsD d = some ds ∧ P ds ρ'
/-- iter of a value that is known -/
theorem iter_l {pins : List (Addr × Obj)} {σ : L2.St} {H : Hp} {s : Shared} {R : It → Hp → Prop} {p : Addr} {xs : List V} (I : Inv X pins σ H s) (h : SqL X.K H p xs) (q : R (Itl X.K p) H) :
    wpAny (model X.prog X.w) X.A (pyIter (.ref p)) (PIE X pins σ tg R) X.xe s := by
  obtain ⟨_, _, z, _⟩ := I.list h
  exact wpAny_pyIter_list z.isList (pi_one (tk := s.toks) I _ (turn_list p _) ⟨_, Heap.get?_push_size _ rfl, rfl, rfl⟩ q)
theorem iter_t {pins : List (Addr × Obj)} {σ : L2.St} {H : Hp} {s : Shared} {R : It → Hp → Prop} {p : Addr} {xs : List V} (I : Inv X pins σ H s) (h : SqT X.K H p xs) (q : R (Itt X.K p) H) :
    wpAny (model X.prog X.w) X.A (pyIter (.ref p)) (PIE X pins σ tg R) X.xe s := by
  obtain ⟨us, _, z, _⟩ := I.tuple h
  exact wpAny_pyIter_tuple (show s.heap.IsTuple p us.toArray from z) (pi_one (tk := s.toks) I _ (turn_tuple p _) ⟨_, Heap.get?_push_size _ rfl, rfl, rfl⟩ q)
theorem iter_s {pins : List (Addr × Obj)} {σ : L2.St} {H : Hp} {s : Shared} {R : It → Hp → Prop} {z : Str} {t : Tok} (I : Inv X pins σ H s) (q : R (Its z) H) :
    wpAny (model X.prog X.w) X.A (pyIter (.str z t)) (PIE X pins σ tg R) X.xe s := by
  cases h : z.cps.all (· < 128) with
  | false => exact wpAny_pyIter_wide h (pi_one (tk := s.toks) I _ (turn_str _ z t _ (.inr rfl)) ⟨_, Heap.get?_push_size _ rfl, rfl, rfl⟩ q)
  | true => exact wpAny_pyIter_ascii h (pi_one (tk := s.toks) I _ (turn_str _ z t _ (.inl rfl)) ⟨_, Heap.get?_push_size _ rfl, rfl, rfl⟩ q)
theorem pit_d {q : QD} (h : PD J X e q) : PIt J X tg e (qItD q) := by
  refine ⟨fun pins s σ H R I ⟨n, H0, ρ, P, Rr, w, k⟩ => ?_⟩
  have run := h.run pins s σ H (fun v H' => ∃ H0' d ρ' ds, Rp X.K J n σ H' H0' ρ' ∧ Same H0 H0' ∧ Dq X.K H0' v d ∧ itemsD d = some ds ∧ P ds ρ') I
    ⟨n, H0, ρ, _, Rr, w, fun v H' H0' d ρ' R' S' hd ⟨ds, e1, hp⟩ => ⟨H0', d, ρ', ds, R', S', hd, e1, hp⟩⟩
  refine thn run fun u s1 ⟨v, H1, I1, r1, H0', d, ρ', ds, R', S', hd, e1, hp⟩ => ?_
  cases hd with
  | lst h1 h2 =>
    cases e1
    cases r1
    exact iter_l I1 (R'.sub.seq h1) (k _ H1 H0' _ ρ' R' S' (it_list h1 h2) hp)
  | tup h1 h2 =>
    cases e1
    cases r1
    exact iter_t I1 (same_t R'.sub h1) (k _ H1 H0' _ ρ' R' S' (it_tup h1 h2) hp)
  | str z =>
    cases e1
    obtain ⟨t, rfl⟩ := r1
    exact iter_s I1 (k _ H1 H0' _ ρ' R' S' it_str hp)
  | _ => cases e1
/-- range -/
def rangeD (lo : Int) : Nat → List D
  | 0 => []
  | n + 1 => .int lo :: rangeD (lo + 1) n
theorem rangeD_len : ∀ (n : Nat) (lo : Int), (rangeD lo n).length = n
  | 0, _ => rfl
  | n + 1, lo => by unfold rangeD; rw [List.length_cons, rangeD_len n]
theorem rangeD_get : ∀ (n i : Nat) (lo : Int), i < n → (rangeD lo n)[i]? = some (.int (lo + i))
  | 0, _, _, h => absurd h (Nat.not_lt_zero _)
  | n + 1, 0, lo, _ => by
    show some (PyData.int lo) = some (.int (lo + (0 : Nat)))
    rw [Int.natCast_zero, Int.add_zero]
  | n + 1, i + 1, lo, h => by
    show (rangeD (lo + 1) n)[i]? = _
    rw [rangeD_get n i (lo + 1) (by omega)]
    have q : lo + 1 + (i : Int) = lo + ((i + 1 : Nat) : Int) := by omega
    rw [q]
theorem it_range {K : PySem.W.Frag} {H0 : Hp} {lo : Int} {n : Nat} : ItOk K (Itr lo n) H0 (rangeD lo n) := by
  refine ⟨fun i Hc S hi => ?_, fun i Hc S hi => ?_, fun i Hc H0c x H' d S1 S2 hi hy => ?_⟩
  · rw [rangeD_len] at hi; exact hi
  · rw [rangeD_len] at hi; exact hi
  · obtain ⟨rfl, rfl⟩ := hy
    have l : i < n := by
      have := (List.getElem?_eq_some_iff.mp hi).1
      rw [rangeD_len] at this
      exact this
    rw [rangeD_get n i lo l] at hi
    cases hi
    exact .inl ⟨rfl, .int _⟩
def qRng1 (q : QL) : QL := fun ρ P => q ρ fun ds ρ' => ∃ j, ds = [.int j] ∧ j < 2 ^ 62 ∧ -(2 ^ 62) ≤ j ∧ P (rangeD 0 j.toNat) ρ'
def qRng2 (q : QL) : QL := fun ρ P => q ρ fun ds ρ' => ∃ i j, ds = [.int i, .int j] ∧ (-(2 ^ 62) ≤ i ∧ i < 2 ^ 62 ∧ -(2 ^ 62) ≤ j ∧ j < 2 ^ 62) ∧ P (rangeD i (j - i).toNat) ρ'
theorem pit_r1 {q : QL} {p : Pos} (hg : Gl X "range") (hm : X.mg "range" = none) (ha : PL J X [a] 1 q) (hs : starEach [a] X.env = [(false, eval a X.env)] := by rfl) : PIt J X tg (.Call (.Name "range" p) [a] [] pos) (qRng1 q) :=
  pi_mono (pi_range1 hg hm ha hs) fun σ H R ⟨n, H0, ρ, P, Rr, w, k⟩ => ⟨n, H0, ρ, _, Rr, w, fun vs H' H0' ds ρ' R' S' hd hl ⟨j, e1, h1, h2, hp⟩ => by
    subst e1
    cases hd with
    | cons q1 q2 =>
      cases q2
      cases q1
      exact ⟨j, rfl, h2, h1, k _ H' H0' _ ρ' R' S' it_range hp⟩⟩
theorem pit_r2 {q : QL} {p : Pos} (hg : Gl X "range") (hm : X.mg "range" = none) (ha : PL J X [a, b] 2 q) (hs : starEach [a, b] X.env = [(false, eval a X.env), (false, eval b X.env)] := by rfl) (hs2 : starEach [b] X.env = [(false, eval b X.env)] := by rfl) :
    PIt J X tg (.Call (.Name "range" p) [a, b] [] pos) (qRng2 q) :=
  pi_mono (pi_range2 hg hm ha hs hs2) fun σ H R ⟨n, H0, ρ, P, Rr, w, k⟩ => ⟨n, H0, ρ, _, Rr, w, fun vs H' H0' ds ρ' R' S' hd hl ⟨i, j, e1, h1, hp⟩ => by
    subst e1
    cases hd with
    | cons q1 q2 =>
      cases q2 with
      | cons q3 q4 =>
        cases q4
        cases q1
        cases q3
        exact ⟨i, j, rfl, h1, k _ H' H0' _ ρ' R' S' it_range hp⟩⟩

/-! ### targets -/
abbrev QG := D → List Sl → (List Sl → Prop) → Prop
abbrev QGs := List D → List Sl → (List Sl → Prop) → Prop
/-- the slots that are stored to -/
def Off (is : List Nat) (σ σ' : L2.St) : Prop := σ'.length = σ.length ∧ ∀ j, j ∉ is → σ'[j]? = σ[j]?
def tG (K : PySem.W.Frag) (J : Jr) (is : List Nat) (q : QG) : TG := fun v σ H Q => ∃ (n : En) (H0 : Hp) (ρ : List Sl) (d : D) (P : List Sl → Prop), Rp K J n σ H H0 ρ ∧ Dq K H0 v d ∧ q d ρ P ∧
  ∀ σ' ρ', Rp K J n σ' H H0 ρ' → Off is σ σ' → P ρ' → Q σ' H
def tGs (K : PySem.W.Frag) (J : Jr) (is : List Nat) (q : QGs) : TGs := fun vs σ H Q => ∃ (n : En) (H0 : Hp) (ρ : List Sl) (ds : List D) (P : List Sl → Prop), Rp K J n σ H H0 ρ ∧ DqAll K H0 vs ds ∧ q ds ρ P ∧
  ∀ σ' ρ', Rp K J n σ' H H0 ρ' → Off is σ σ' → P ρ' → Q σ' H
abbrev PGd (J : Jr) (X : Cx) (tg : Expr) (is : List Nat) (q : QG) : Prop := PG X tg (tG X.K J is q)
abbrev PGds (J : Jr) (X : Cx) (es : List Expr) (is : List Nat) (q : QGs) : Prop := PGs X es (tGs X.K J is q)
theorem pg_mono {t t' : TG} (h : PG X tg t) (i : ∀ v σ H Q, t' v σ H Q → t v σ H Q) : PG X tg t' := ⟨fun pins s σ H v u Q I r w => h.run pins s σ H v u Q I r (i _ _ _ _ w)⟩
theorem pgs_mono {t t' : TGs} (h : PGs X es t) (i : ∀ v σ H Q, t' v σ H Q → t v σ H Q) : PGs X es t' := ⟨fun pins s σ H v u Q I r w => h.run pins s σ H v u Q I r (i _ _ _ _ w)⟩
theorem off_set {i : Nat} {σ : L2.St} {x : Option V} : Off [i] σ (σ.set i x) := ⟨List.length_set .., fun j hj => by
  rw [get_set, if_neg (fun q => hj (by rw [q]; exact List.mem_cons_self ..))]⟩
theorem Off.trans {is js : List Nat} {σ σ1 σ2 : L2.St} (h : Off is σ σ1) (h' : Off js σ1 σ2) : Off (is ++ js) σ σ2 := ⟨h'.1.trans h.1, fun j hj => by
  rw [h'.2 j (fun q => hj (List.mem_append_right _ q)), h.2 j (fun q => hj (List.mem_append_left _ q))]⟩
def qgName (i : Nat) : QG := fun d ρ P => P (ρ.set i (.da d))
theorem pgd_name {i : Nat} (h : PG X tg (gName i)) : PGd J X tg [i] (qgName i) := pg_mono h fun v σ H Q ⟨n, H0, ρ, d, P, R, hd, w, k⟩ => k _ _ (R.set_da hd) off_set w
def qgNil : QGs := fun ds ρ P => ds = [] ∧ P ρ
def qgCons (q : QG) (r : QGs) : QGs := fun ds ρ P => match ds with
  | d :: ds => q d ρ fun ρ' => r ds ρ' P
  | [] => False
theorem pgds_nil : PGds J X [] [] qgNil := pgs_mono pgs_nil fun vs σ H Q ⟨n, H0, ρ, ds, P, R, hd, w, k⟩ => by
  obtain ⟨rfl, hp⟩ := w
  cases hd
  exact ⟨rfl, k σ ρ R ⟨rfl, fun _ _ => rfl⟩ hp⟩
theorem pgds_cons {is js : List Nat} {q : QG} {r : QGs} (h1 : PGd J X e is q) (h2 : PGds J X es js r) (hs : (assignEach (e :: es) X.env).map (·.2) = assign e X.env :: (assignEach es X.env).map (·.2) := by rfl) : PGds J X (e :: es) (is ++ js) (qgCons q r) :=
  pgs_mono (pgs_cons h1 h2 hs) fun vs σ H Q ⟨n, H0, ρ, ds, P, R, hd, w, k⟩ => by
    cases hd with
    | nil => exact w.elim
    | @cons v vr d dr q1 q2 =>
      exact ⟨v, vr, rfl, n, H0, ρ, d, _, R, q1, w, fun σ1 ρ1 R1 O1 w1 => ⟨n, H0, ρ1, dr, P, R1, q2, w1, fun σ2 ρ2 R2 O2 hp => k σ2 ρ2 R2 (O1.trans O2) hp⟩⟩
def qgTup (m : Nat) (r : QGs) : QG := fun d ρ P => match d with
  | .tuple ds => ds.length = m ∧ r ds ρ P
  | _ => False
theorem pgd_tup {is : List Nat} {r : QGs} {m k : Nat} (hc : X.calm = true) (h : PGds J X es is r) (hn : (assignEach es X.env).length = m := by rfl) (hst : (assignEach es X.env).findIdx? (·.1) = none := by rfl) : PGd J X (.Tuple es k pos) is (qgTup m r) :=
  pg_mono (pg_tup hc h hn hst) fun v σ H Q ⟨n, H0, ρ, d, P, R, hd, w, k⟩ => by
    cases hd with
    | tup h1 h2 => exact ⟨_, _, rfl, same_t R.sub h1, by rw [dpa_len h2]; exact w.1, n, H0, ρ, _, P, R, h2, w.2, k⟩
    | _ => exact w.elim
end
end Zd

set_option Elab.async false
set_option linter.all false
set_option maxRecDepth 100000
set_option maxHeartbeats 4000000
namespace Zd
open PySem PySem.Spec PyProof.Rows L2
/-! ### statements -/
structure EndD where
  nx : List Sl → Prop
  rt : Sl → List Sl → Prop
  bk : List Sl → Prop
  ct : List Sl → Prop
abbrev QS := EndD → List Sl → Prop
def tS (K : PySem.W.Frag) (J : Jr) (q : QS) : TS := fun D σ H => ∃ (n : En) (H0 : Hp) (ρ : List Sl) (E : EndD), Rp K J n σ H H0 ρ ∧ q E ρ ∧
  (∀ σ' H' H0' ρ', Rp K J n σ' H' H0' ρ' → Same H0 H0' → E.nx ρ' → D.nx σ' H') ∧ (∀ v σ' H' H0' r ρ', Rp K J n σ' H' H0' ρ' → Same H0 H0' → ResOk K n σ' ρ' H' H0' v r → E.rt r ρ' → D.rt v H') ∧
  (∀ σ' H' H0' ρ', Rp K J n σ' H' H0' ρ' → Same H0 H0' → E.bk ρ' → D.bk σ' H') ∧ (∀ σ' H' H0' ρ', Rp K J n σ' H' H0' ρ' → Same H0 H0' → E.ct ρ' → D.ct σ' H')
section
variable {X : Cx} {J : Jr} {e a b c tg iter elt : Expr} {es : List Expr} {pos : Pos} {st : Stmt} {sts : List Stmt}
abbrev PSd (J : Jr) (X : Cx) (st : Stmt) (q : QS) : Prop := PS X st (tS X.K J q)
abbrev PSsd (J : Jr) (X : Cx) (sts : List Stmt) (q : QS) : Prop := PSs X sts (tS X.K J q)
theorem ps_mono {t t' : TS} (h : PS X st t) (i : ∀ D σ H, t' D σ H → t D σ H) : PS X st t' := ⟨fun pins s σ H D I w => h.run pins s σ H D I (i _ _ _ w)⟩
theorem pss_mono {t t' : TS} (h : PSs X sts t) (i : ∀ D σ H, t' D σ H → t D σ H) : PSs X sts t' := ⟨fun pins s σ H D I w => h.run pins s σ H D I (i _ _ _ w)⟩
def qNext : QS := fun E ρ => E.nx ρ
def qSeq (q r : QS) : QS := fun E ρ => q { E with nx := r E } ρ
theorem pssd_nil : PSsd J X [] qNext := pss_mono pss_nil fun D σ H ⟨n, H0, ρ, E, R, w, k, _⟩ => k σ H H0 ρ R (.refl _) w
theorem pssd_cons {q r : QS} (h : PSd J X st q) (h2 : PSsd J X sts r) : PSsd J X (st :: sts) (qSeq q r) := pss_mono (pss_cons h h2) fun D σ H ⟨n, H0, ρ, E, R, w, k1, k2, k3, k4⟩ =>
  ⟨n, H0, ρ, _, R, w, fun σ1 H1 H01 ρ1 R1 S1 w1 => ⟨n, H01, ρ1, E, R1, w1, fun σ' H' H0' ρ' R' S' z => k1 σ' H' H0' ρ' R' (S1.trans S') z, fun v σ' H' H0' r ρ' R' S' => k2 v σ' H' H0' r ρ' R' (S1.trans S'), fun σ' H' H0' ρ' R' S' z => k3 σ' H' H0' ρ' R' (S1.trans S') z, fun σ' H' H0' ρ' R' S' z => k4 σ' H' H0' ρ' R' (S1.trans S') z⟩, k2, k3, k4⟩
theorem psd_pass : PSd J X (.Pass pos) qNext := ps_mono ps_pass fun D σ H ⟨n, H0, ρ, E, R, w, k, _⟩ => k σ H H0 ρ R (.refl _) w
def qBrk : QS := fun E ρ => E.bk ρ
def qCnt : QS := fun E ρ => E.ct ρ
theorem psd_brk : PSd J X (.Break pos) qBrk := ps_mono ps_break fun D σ H ⟨n, H0, ρ, E, R, w, _, _, k, _⟩ => k σ H H0 ρ R (.refl _) w
theorem psd_cnt : PSd J X (.Continue pos) qCnt := ps_mono ps_continue fun D σ H ⟨n, H0, ρ, E, R, w, _, _, _, k⟩ => k σ H H0 ρ R (.refl _) w
def qDrop (q : QR) : QS := fun E ρ => q ρ fun _ ρ' => E.nx ρ'
theorem psd_expr {q : QR} (h : PR J X e q) (hs : swapsWith e none pos.line X.env = pure false := by rfl) : PSd J X (.Expr e pos) (qDrop q) := ps_mono (ps_expr h hs) fun D σ H ⟨n, H0, ρ, E, R, w, k, _⟩ => ⟨n, H0, ρ, _, R, w, fun v H' H0' r ρ' R' S' _ hp => k σ H' H0' ρ' R' S' hp⟩
def qRet (q : QR) : QS := fun E ρ => q ρ fun r ρ' => E.rt r ρ'
theorem psd_ret {q : QR} (h : PR J X e q) : PSd J X (.Return (some e) pos) (qRet q) := ps_mono (ps_ret h) fun D σ H ⟨n, H0, ρ, E, R, w, _, k, _⟩ => ⟨n, H0, ρ, _, R, w, fun v H' H0' r ρ' R' S' hr hp => k v σ H' H0' r ρ' R' S' hr hp⟩
def qRetN : QS := fun E ρ => E.rt (.da .none) ρ
theorem psd_retN : PSd J X (.Return none pos) qRetN := ps_mono ps_retN fun D σ H ⟨n, H0, ρ, E, R, w, _, k, _⟩ => k .non σ H H0 (.da .none) ρ R (.refl _) Dq.non w
def qIfS (qc : QT) (q r : QS) : QS := fun E ρ => qc ρ fun b ρ' => if b = true then q E ρ' else r E ρ'
theorem psd_if {qc : QT} {q r : QS} {sa sb : List Stmt} (hc : PB J X c qc) (h1 : PSsd J X sa q) (h2 : PSsd J X sb r) : PSd J X (.If c sa sb pos) (qIfS qc q r) := ps_mono (ps_if hc h1 h2) fun D σ H ⟨n, H0, ρ, E, R, w, k1, k2, k3, k4⟩ =>
  ⟨n, H0, ρ, _, R, w, fun x H1 H01 ρ1 R1 S1 w1 => by
    cases x with
    | true => exact ⟨n, H01, ρ1, E, R1, w1, fun σ' H' H0' ρ' R' S' z => k1 σ' H' H0' ρ' R' (S1.trans S') z, fun v σ' H' H0' r ρ' R' S' => k2 v σ' H' H0' r ρ' R' (S1.trans S'), fun σ' H' H0' ρ' R' S' z => k3 σ' H' H0' ρ' R' (S1.trans S') z, fun σ' H' H0' ρ' R' S' z => k4 σ' H' H0' ρ' R' (S1.trans S') z⟩
    | false => exact ⟨n, H01, ρ1, E, R1, w1, fun σ' H' H0' ρ' R' S' z => k1 σ' H' H0' ρ' R' (S1.trans S') z, fun v σ' H' H0' r ρ' R' S' => k2 v σ' H' H0' r ρ' R' (S1.trans S'), fun σ' H' H0' ρ' R' S' z => k3 σ' H' H0' ρ' R' (S1.trans S') z, fun σ' H' H0' ρ' R' S' z => k4 σ' H' H0' ρ' R' (S1.trans S') z⟩⟩
/-- a result is stored in a slot -/
theorem Rp.put {K : PySem.W.Frag} {n : En} {σ : L2.St} {H H0 : Hp} {ρ : List Sl} {v : V} {r : Sl} (R : Rp K J n σ H H0 ρ) (h : ResOk K n σ ρ H H0 v r) (i : Nat) : Rp K J n (σ.set i (some v)) H H0 (ρ.set i r) := by
  cases r with
  | un => exact h.elim
  | da d => exact R.set_da h
  | ow ds =>
    obtain ⟨a, xs, rfl, h2, h3, h4, h5, h6⟩ := h
    exact R.set_ow h2 h3 h4 h5 h6
  | od ds =>
    obtain ⟨a, xs, rfl, h2, h3, h4, h5, h6⟩ := h
    exact R.set_od h2 h3 h4 h5
  | ja => exact h.elim
  | jo c => exact h.elim
def qSet (i : Nat) (q : QR) : QS := fun E ρ => q ρ fun r ρ' => E.nx (ρ'.set i r)
theorem set_mono {i : Nat} {q : QR} {te : TE} (hm : ∀ σ H Q, tR X.K J q σ H Q → te σ H Q) : ∀ D σ H, tS X.K J (qSet i q) D σ H → tAsg te (gName i) D σ H := fun D σ H ⟨n, H0, ρ, E, R, w, k, _⟩ =>
  hm σ H _ ⟨n, H0, ρ, _, R, w, fun v H' H0' r ρ' R' S' hr hp => k _ H' H0' _ (R'.put hr i) S' hp⟩
theorem psd_set {i : Nat} {q : QR} {x : Str} {pos' : Pos} (hN : X.N.Nodup) (hi : X.N[i]? = some x) (hx : Loc X.env.scope x) (he : PR J X e q) (hs : swapsWith e (some (.Name x pos')) pos.line X.env = pure false := by rfl)
    (hf : X.fn x = true ∨ X.env.scope.names.lookup x = some .local := by first | exact .inl rfl | exact .inr rfl | assumption) : PSd J X (.Assign [.Name x pos'] e pos) (qSet i q) :=
  ps_mono (ps_set hN hi hx he hs hf) (set_mono (fun _ _ _ z => z))
/-- a tuple is taken apart -/
def qAsg (q : QD) (g : QG) : QS := fun E ρ => q ρ fun d ρ' => g d ρ' E.nx
theorem psd_asg {is : List Nat} {q : QD} {g : QG} (he : PD J X e q) (hg : PGd J X tg is g) (hs : swapsWithSole [tg] e pos.line X.env = pure false := by rfl) (hw : swappedStores [tg] e X.env = pure none := by rfl)
    (h1 : (assignEach [tg] X.env).map (·.2) = [assign tg X.env] := by rfl) : PSd J X (.Assign [tg] e pos) (qAsg q g) := ps_mono (ps_asg he hg hs hw h1) fun D σ H ⟨n, H0, ρ, E, R, w, k, _⟩ =>
  ⟨n, H0, ρ, _, R, w, fun v H1 H01 d ρ1 R1 S1 hd w1 => ⟨n, H01, ρ1, d, _, R1, hd, w1, fun σ' ρ' R' _ hp => k σ' H1 H01 ρ' R' S1 hp⟩⟩
def qPar (i j : Nat) (q : QL) : QS := fun E ρ => q ρ fun ds ρ' => match ds with
  | [d, e] => E.nx ((ρ'.set i (.da d)).set j (.da e))
  | _ => False
theorem psd_par {i j : Nat} {q : QL} {x y : Str} {px py pt : Pos} {kt k2 pt2} (hc : X.calm = true) (hN : X.N.Nodup) (hi : X.N[i]? = some x) (hj : X.N[j]? = some y) (hij : i ≠ j) (hx : X.env.scope.names.lookup x = some .local) (hy : X.env.scope.names.lookup y = some .local) (ha : PL J X [a, b] 2 q)
    (hw : swappedStores [.Tuple [.Name x px, .Name y py] kt pt] (.Tuple [a, b] k2 pt2) X.env = pure (some [x, y])) (hs : swapsWithSole [.Tuple [.Name x px, .Name y py] kt pt] (.Tuple [a, b] k2 pt2) pos.line X.env = pure false := by rfl) :
    PSd J X (.Assign [.Tuple [.Name x px, .Name y py] kt pt] (.Tuple [a, b] k2 pt2) pos) (qPar i j q) := ps_mono (ps_par hc hN hi hj hij hx hy ha hw hs) fun D σ H ⟨n, H0, ρ, E, R, w, k, _⟩ =>
  ⟨n, H0, ρ, _, R, w, fun vs H1 H01 ds ρ1 R1 S1 hd hl w1 => by
    cases hd with
    | nil => exact w1.elim
    | cons q1 q2 =>
      cases q2 with
      | nil => exact w1.elim
      | cons q3 q4 =>
        cases q4 with
        | nil => exact ⟨_, _, rfl, k _ H1 H01 _ ((R1.set_da q1).set_da q3) S1 w1⟩
        | cons _ _ => exact w1.elim⟩
/-- i += e, i -= e of ints -/
def qAugI (f : Int → Int → Int) (i : Nat) (q : QD) : QS := fun E ρ => ∃ x, ρ[i]? = some (.da (.int x)) ∧ q ρ fun d ρ' => ∃ y, d = .int y ∧ E.nx (ρ'.set i (.da (.int (f x y))))
theorem aug_mono {f : Int → Int → Int} {i : Nat} {q : QD} : ∀ D σ H, tS X.K J (qAugI f i q) D σ H → tAug i (tD X.K J q) (ipI f) D σ H := fun D σ H ⟨n, H0, ρ, E, R, ⟨x, hx, w⟩, k, _⟩ => by
  obtain ⟨v, h1, h2⟩ := R.sl i _ hx
  have ev := dp_int h2
  subst ev
  exact ⟨_, h1, n, H0, ρ, _, R, w, fun u H1 H01 d ρ1 R1 S1 hd ⟨y, ey, hp⟩ => by
    subst ey
    exact ⟨x, y, rfl, dp_int hd, k _ H1 H01 _ (R1.set_da (.int _)) S1 hp⟩⟩
theorem psd_augA {i : Nat} {q : QD} {x : Str} {pos' : Pos} (hN : X.N.Nodup) (hi : X.N[i]? = some x) (hx : Loc X.env.scope x) (he : PD J X e q) (hf : X.fn x = true ∨ X.env.scope.names.lookup x = some .local := by first | exact .inl rfl | exact .inr rfl | assumption) :
    PSd J X (.AugAssign (.Name x pos') .Add e pos) (qAugI (fun i j => i + j) i q) := ps_mono (ps_aug hN hi hx he ip_add hf) aug_mono
theorem psd_augS {i : Nat} {q : QD} {x : Str} {pos' : Pos} (hN : X.N.Nodup) (hi : X.N[i]? = some x) (hx : Loc X.env.scope x) (he : PD J X e q) (hf : X.fn x = true ∨ X.env.scope.names.lookup x = some .local := by first | exact .inl rfl | exact .inr rfl | assumption) :
    PSd J X (.AugAssign (.Name x pos') .Sub e pos) (qAugI (fun i j => i - j) i q) := ps_mono (ps_aug hN hi hx he ip_sub hf) aug_mono

/-! ### loops -/
def loopD (g : QG) (q : QS) (E : EndD) : List D → List Sl → Prop
  | [], ρ => E.nx ρ
  | d :: ds, ρ => g d ρ fun ρ' => q { nx := loopD g q E ds, rt := E.rt, bk := E.nx, ct := loopD g q E ds } ρ'
def qFor (qi : QL) (g : QG) (q : QS) : QS := fun E ρ => qi ρ fun ds ρ' => loopD g q E ds ρ'
theorem psd_for {is : List Nat} {qi : QL} {g : QG} {q : QS} {body : List Stmt} (hp : PassesOwn (model X.prog X.w) X.A X.env X.xe) (hc : X.calm = true) (hi : PIt J X tg iter qi) (hg : PGd J X tg is g) (hb : PSsd J X body q)
    (hs : ∀ x, foldedSetIterable iter X.env x = pure x := by intro _; rfl) : PSd J X (.For tg iter body [] pos) (qFor qi g q) := ps_mono (ps_for hp hc hi hg hb hs) fun D σ H ⟨n, H0, ρ, E, R, w, k1, k2, k3, k4⟩ => by
  refine ⟨n, H0, ρ, _, R, w, fun J' H1 H01 items ρ1 R1 S1 ⟨i1, i2, i3⟩ w1 => ?_⟩
  refine ⟨fun i m σ H => m = items.length - i ∧ i ≤ items.length ∧ ∃ H0c ρc, Rp X.K J n σ H H0c ρc ∧ Same H01 H0c ∧ loopD g q E (items.drop i) ρc, ⟨items.length, by simp, Nat.zero_le _, H01, ρ1, R1, .refl _, w1⟩, ?_⟩
  rintro i m σc Hc ⟨rfl, hle, H0c, ρc, Rc, Sc, wc⟩
  have same : Same H01 Hc := Sc.trans Rc.sub
  by_cases hi : i < items.length
  · have ed : items.drop i = items[i] :: items.drop (i + 1) := List.drop_eq_getElem_cons hi
    rw [ed] at wc
    refine .inr ⟨i1 i Hc same hi, fun σ' H' => ∃ H0c ρc, Rp X.K J n σ' H' H0c ρc ∧ Same H01 H0c ∧ loopD g q E (items.drop (i + 1)) ρc, fun σ' H' ⟨H0d, ρd, Rd, Sd, wd⟩ => ⟨items.length - (i + 1), by omega, rfl, hi, H0d, ρd, Rd, Sd, wd⟩, fun x H' hy => ?_⟩
    have go : ∀ H0e, Rp X.K J n σc H' H0e ρc → Same H01 H0e → Dq X.K H0e x items[i] → tG X.K J is g x σc H' fun σ2 H2 => tS X.K J q { D with
        nx := fun σ' H' => ∃ H0c ρc, Rp X.K J n σ' H' H0c ρc ∧ Same H01 H0c ∧ loopD g q E (items.drop (i + 1)) ρc, ct := fun σ' H' => ∃ H0c ρc, Rp X.K J n σ' H' H0c ρc ∧ Same H01 H0c ∧ loopD g q E (items.drop (i + 1)) ρc, bk := D.nx } σ2 H2 := fun H0e Re Se hd =>
      ⟨n, H0e, ρc, items[i], _, Re, hd, wc, fun σ2 ρ2 R2 _ w2 => ⟨n, H0e, ρ2, _, R2, w2, fun σ' H' H0' ρ' R' S' z => ⟨H0', ρ', R', Se.trans S', z⟩, fun v σ' H' H0' r ρ' R' S' => k2 v σ' H' H0' r ρ' R' ((S1.trans Se).trans S'),
        fun σ' H' H0' ρ' R' S' z => k1 σ' H' H0' ρ' R' ((S1.trans Se).trans S') z, fun σ' H' H0' ρ' R' S' z => ⟨H0', ρ', R', Se.trans S', z⟩⟩⟩
    rcases i3 i Hc H0c x H' items[i] Sc Rc.sub (List.getElem?_eq_getElem hi) hy with ⟨rfl, hd⟩ | ⟨T, xs, hT, rfl, hd⟩
    · exact go H0c Rc Sc hd
    · exact go _ (Rc.alloc hT) (Sc.trans (same_up (Rc.h0 hT))) hd
  · have ei : i = items.length := by omega
    subst ei
    rw [List.drop_length] at wc
    exact .inl ⟨i2 _ Hc same (Nat.le_refl _), k1 σc Hc H0c ρc Rc (S1.trans Sc) wc⟩
def qWhile (qc : QT) (q : QS) : QS := fun E ρ => ∃ W : Nat → List Sl → Prop, (∃ m, W m ρ) ∧ ∀ m ρ, W m ρ → qc ρ fun b ρ' => if b = true then q { nx := fun ρ => ∃ m', m' < m ∧ W m' ρ, rt := E.rt, bk := E.nx, ct := fun ρ => ∃ m', m' < m ∧ W m' ρ } ρ' else E.nx ρ'
theorem psd_while {qc : QT} {q : QS} {body : List Stmt} (hp : PassesOwn (model X.prog X.w) X.A X.env X.xe) (hc : PB J X c qc) (hb : PSsd J X body q) : PSd J X (.While c body [] pos) (qWhile qc q) := ps_mono (ps_while hp hc hb) fun D σ H ⟨n, H0, ρ, E, R, ⟨W, ⟨m0, w0⟩, turn⟩, k1, k2, k3, k4⟩ => by
  refine ⟨fun m σ H => ∃ H0c ρc, Rp X.K J n σ H H0c ρc ∧ Same H0 H0c ∧ W m ρc, ⟨m0, H0, ρ, R, .refl _, w0⟩, ?_⟩
  rintro m σc Hc ⟨H0c, ρc, Rc, Sc, wc⟩
  refine ⟨n, H0c, ρc, _, Rc, turn m ρc wc, fun x H1 H01 ρ1 R1 S1 w1 => ?_⟩
  cases x with
  | true =>
    exact ⟨fun σ' H' => ∃ m', m' < m ∧ ∃ H0c ρc, Rp X.K J n σ' H' H0c ρc ∧ Same H0 H0c ∧ W m' ρc, fun σ' H' ⟨m', h1, h2⟩ => ⟨m', h1, h2⟩, n, H01, ρ1, _, R1, w1, fun σ' H' H0' ρ' R' S' ⟨m', h1, h2⟩ => ⟨m', h1, H0', ρ', R', (Sc.trans S1).trans S', h2⟩, fun v σ' H' H0' r ρ' R' S' => k2 v σ' H' H0' r ρ' R' ((Sc.trans S1).trans S'),
      fun σ' H' H0' ρ' R' S' z => k1 σ' H' H0' ρ' R' ((Sc.trans S1).trans S') z, fun σ' H' H0' ρ' R' S' ⟨m', h1, h2⟩ => ⟨m', h1, H0', ρ', R', (Sc.trans S1).trans S', h2⟩⟩
  | false => exact k1 σc H1 H01 ρ1 R1 (Sc.trans S1) w1

/-! ### list comprehensions -/
def wipeD (ρ : List Sl) : List Nat → List Sl
  | [] => ρ
  | v :: vs => (wipeD ρ vs).set v .un
theorem Rp.wipe {K : PySem.W.Frag} {n : En} {σ : L2.St} {H H0 : Hp} {ρ : List Sl} (R : Rp K J n σ H H0 ρ) : ∀ vs, Rp K J n (L2.wipe σ vs) H H0 (wipeD ρ vs)
  | [] => R
  | v :: vs => (Rp.wipe R vs).forget v none
theorem wipe_get (σ : L2.St) : ∀ (vs : List Nat) (j : Nat), (L2.wipe σ vs)[j]? = if j ∈ vs then (if j < σ.length then some none else none) else σ[j]?
  | [], j => by rw [if_neg (by simp)]; rfl
  | v :: vs, j => by
    show ((L2.wipe σ vs).set v none)[j]? = _
    rw [get_set, wipe_length, wipe_get σ vs j]
    by_cases q : v = j
    · subst q
      rw [if_pos rfl, if_pos (List.mem_cons_self ..)]
    · rw [if_neg q]
      by_cases m : j ∈ vs
      · rw [if_pos m, if_pos (List.mem_cons_of_mem _ m)]
      · rw [if_neg m, if_neg (fun z => (List.mem_cons.mp z).elim (fun z => q z.symm) m)]
theorem wipe_off {σ σ2 : L2.St} {vs is : List Nat} (O : Off is (L2.wipe σ vs) σ2) (h : ∀ i ∈ is, i ∈ vs) : L2.wipe σ2 vs = L2.wipe σ vs := by
  apply List.ext_getElem?
  intro j
  have hl : σ2.length = σ.length := by rw [O.1, wipe_length]
  rw [wipe_get, wipe_get, hl]
  by_cases m : j ∈ vs
  · rw [if_pos m, if_pos m]
  · have q := O.2 j (fun z => m (h j z))
    rw [wipe_get, if_neg m] at q
    rw [if_neg m, if_neg m, q]
theorem wipeD_get (ρ : List Sl) : ∀ (vs : List Nat) (j : Nat), j ∉ vs → (wipeD ρ vs)[j]? = ρ[j]?
  | [], _, _ => rfl
  | v :: vs, j, h => by
    show ((wipeD ρ vs).set v .un)[j]? = _
    rw [get_set, if_neg (fun q => h (by rw [q]; exact List.mem_cons_self ..)), wipeD_get ρ vs j (fun z => h (List.mem_cons_of_mem _ z))]
/-- no list of the def's own is hidden by the comprehension's names -/
def noOw : Option Sl → Prop
  | some (.ow _) => False
  | some (.od _) => False
  | some (.jo _) => False
  | _ => True
def clean (ρ : List Sl) : List Nat → Prop
  | [] => True
  | v :: vs => noOw ρ[v]? ∧ clean ρ vs
theorem clean_at {ρ : List Sl} : ∀ {vs : List Nat} {j : Nat}, clean ρ vs → j ∈ vs → ∀ ds, ρ[j]? ≠ some (.ow ds)
  | v :: vs, j, h, m, ds, e => by
    rcases List.mem_cons.mp m with q | q
    · subst q
      have z := h.1
      rw [e] at z
      exact z
    · exact clean_at h.2 q ds e
theorem clean_od {ρ : List Sl} : ∀ {vs : List Nat} {j : Nat}, clean ρ vs → j ∈ vs → ∀ ds, ρ[j]? ≠ some (.od ds)
  | v :: vs, j, h, m, ds, e => by
    rcases List.mem_cons.mp m with q | q
    · subst q
      have z := h.1
      rw [e] at z
      exact z
    · exact clean_od h.2 q ds e
theorem clean_jo {ρ : List Sl} : ∀ {vs : List Nat} {j : Nat}, clean ρ vs → j ∈ vs → ∀ c, ρ[j]? ≠ some (.jo c)
  | v :: vs, j, h, m, c, e => by
    rcases List.mem_cons.mp m with q | q
    · subst q
      have z := h.1
      rw [e] at z
      exact z
    · exact clean_jo h.2 q c e
theorem Rp.unwipe {K : PySem.W.Frag} {n : En} {σ : L2.St} {H H0 H' H0' : Hp} {ρ : List Sl} {vs : List Nat} (R : Rp K J n σ H H0 ρ) (S : Same H0 H0') (hc : clean ρ vs) (R' : Rp K J n (L2.wipe σ vs) H' H0' (wipeD ρ vs)) : Rp K J n σ H' H0' ρ where
  len := R.len
  sub := R'.sub
  sl := fun j s e => by
    by_cases m : j ∈ vs
    · have q := R.sl j s e
      cases s with
      | un => trivial
      | da d => obtain ⟨v, h1, h2⟩ := q; exact ⟨v, h1, dp_mono S d v h2⟩
      | ow ds => exact absurd e (clean_at hc m ds)
      | od ds => exact absurd e (clean_od hc m ds)
      | ja => exact q
      | jo c => exact absurd e (clean_jo hc m c)
    · have q := R'.sl j s (by rw [wipeD_get ρ vs j m]; exact e)
      have g : (L2.wipe σ vs)[j]? = σ[j]? := by rw [wipe_get, if_neg m]
      cases s with
      | un => trivial
      | da d => obtain ⟨v, h1, h2⟩ := q; exact ⟨v, by rw [← g]; exact h1, h2⟩
      | ow ds => obtain ⟨a, xs, h1, h2⟩ := q; exact ⟨a, xs, by rw [← g]; exact h1, h2⟩
      | od ds => obtain ⟨a, xs, h1, h2⟩ := q; exact ⟨a, xs, by rw [← g]; exact h1, h2⟩
      | ja => exact ⟨by rw [← g]; exact q.1, q.2⟩
      | jo c => exact ⟨by rw [← g]; exact q.1, q.2⟩
  sep := R.sep
  fr := R'.fr
  base := R'.base
  fresh := R'.fresh
  jar := R'.jar
  jdom := R'.jdom
  jx := R.jx
def qYes : QT := fun ρ P => P true ρ
abbrev PTsd (J : Jr) (X : Cx) (ifs : List Expr) (q : QT) : Prop := PTs X ifs (tT X.K J q)
theorem pts_mono {t t' : TT} (h : PTs X es t) (i : ∀ σ H Q, t' σ H Q → t σ H Q) : PTs X es t' := ⟨fun pins s σ H Q I w => h.run pins s σ H Q I (i _ _ _ w)⟩
theorem ptsd_nil : PTsd J X [] qYes := pts_mono pts_nil fun σ H Q ⟨n, H0, ρ, P, R, w, k⟩ => k true H H0 ρ R (.refl _) w
theorem ptsd_one {q : QT} (h : PB J X c q) : PTsd J X [c] q := pts_one h
def lcD (g : QG) (qt : QT) (q : QD) (vs : List Nat) (ρ : List Sl) (F : List D → Prop) : List D → List D → Prop
  | [], acc => F acc
  | d :: ds, acc => g d (wipeD ρ vs) fun ρ1 => qt ρ1 fun b ρ2 => if b = true then q ρ2 fun x ρ3 => wipeD ρ3 vs = wipeD ρ vs ∧ acc.length < sizeLine ∧ lcD g qt q vs ρ F ds (acc ++ [x]) else wipeD ρ2 vs = wipeD ρ vs ∧ lcD g qt q vs ρ F ds acc
def qLc (qi : QL) (g : QG) (qt : QT) (q : QD) (vs : List Nat) : QR := fun ρ P => qi ρ fun items ρ1 => clean ρ1 vs ∧ lcD g qt q vs ρ1 (fun acc => P (.ow acc) ρ1) items []
theorem lc_mono {is vs : List Nat} {qi : QL} {g : QG} {qt : QT} {q : QD} (hv : ∀ i ∈ is, i ∈ vs) : ∀ σ H Q, tR X.K J (qLc qi g qt q vs) σ H Q → tLc (tI X.K J qi) (tG X.K J is g) (tT X.K J qt) (tD X.K J q) vs σ H Q := fun σ H Q ⟨n, H0, ρ, P, R, w, k⟩ => by
  refine ⟨n, H0, ρ, _, R, w, fun J' H1 H01 items ρ1 R1 S1 ⟨i1, i2, i3⟩ ⟨hc, w1⟩ => ?_⟩
  intro L hL
  have L0 : n.He L = none := R1.he0 hL
  have La : L ∉ n.as := fun z => (R1.jdom L z).2 L0
  have Lb : n.H0 L = none := R1.base.free (R1.h0 hL)
  have inv : Nat → Nat → Hp → Prop := fun i m H => m = items.length - i ∧ i ≤ items.length ∧ ∃ H0c vacc acc, Rp X.K J n σ H H0c ρ1 ∧ Same H01 H0c ∧ H L = some (.lst vacc) ∧ DqAll X.K H0c vacc acc ∧ H0c L = none ∧ (∀ (i : Nat) (es : List D), ρ1[i]? = some (Sl.ow es) → σ[i]? ≠ some (some (V.ref L))) ∧ lcD g qt q vs ρ1 (fun acc => P (.ow acc) ρ1) (items.drop i) acc
  refine ⟨fun i m H => m = items.length - i ∧ i ≤ items.length ∧ ∃ H0c vacc acc, Rp X.K J n σ H H0c ρ1 ∧ Same H01 H0c ∧ H L = some (.lst vacc) ∧ DqAll X.K H0c vacc acc ∧ H0c L = none ∧ (∀ (i : Nat) (es : List D), ρ1[i]? = some (Sl.ow es) → σ[i]? ≠ some (some (V.ref L))) ∧ lcD g qt q vs ρ1 (fun acc => P (.ow acc) ρ1) (items.drop i) acc,
    ⟨items.length, by simp, Nat.zero_le _, H01, [], [], R1.laid hL, .refl _, upd_same, .nil, R1.h0 hL, R1.new hL, w1⟩, ?_⟩
  rintro i m Hc ⟨rfl, hle, H0c, vacc, acc, Rc, Sc, hl, hacc, h0, hs, wc⟩
  have same : Same H01 Hc := Sc.trans Rc.sub
  by_cases hi : i < items.length
  · have ed : items.drop i = items[i] :: items.drop (i + 1) := List.drop_eq_getElem_cons hi
    rw [ed] at wc
    refine .inr ⟨i1 i Hc same hi, fun H => ∃ H0c vacc acc, Rp X.K J n σ H H0c ρ1 ∧ Same H01 H0c ∧ H L = some (.lst vacc) ∧ DqAll X.K H0c vacc acc ∧ H0c L = none ∧ (∀ (i : Nat) (es : List D), ρ1[i]? = some (Sl.ow es) → σ[i]? ≠ some (some (V.ref L))) ∧ lcD g qt q vs ρ1 (fun acc => P (.ow acc) ρ1) (items.drop (i + 1)) acc,
      fun H' hN => ⟨items.length - (i + 1), by omega, rfl, hi, hN⟩, fun x H' hy => ?_⟩
    have go : ∀ H0e, Rp X.K J n σ H' H0e ρ1 → Same H0c H0e → H' L = some (.lst vacc) → H0e L = none → Dq X.K H0e x items[i] → tG X.K J is g x (L2.wipe σ vs) H' fun σ2 H2 => L2.wipe σ2 vs = L2.wipe σ vs ∧ tT X.K J qt σ2 H2 fun b H3 =>
        if b = true then tD X.K J q σ2 H3 fun y H4 => ∃ acc, H4 L = some (.lst acc) ∧ acc.length < sizeLine ∧ (fun H => ∃ H0c vacc acc, Rp X.K J n σ H H0c ρ1 ∧ Same H01 H0c ∧ H L = some (.lst vacc) ∧ DqAll X.K H0c vacc acc ∧ H0c L = none ∧ (∀ (i : Nat) (es : List D), ρ1[i]? = some (Sl.ow es) → σ[i]? ≠ some (some (V.ref L))) ∧ lcD g qt q vs ρ1 (fun acc => P (.ow acc) ρ1) (items.drop (i + 1)) acc) (upd H4 L (.lst (acc ++ [y])))
        else (fun H => ∃ H0c vacc acc, Rp X.K J n σ H H0c ρ1 ∧ Same H01 H0c ∧ H L = some (.lst vacc) ∧ DqAll X.K H0c vacc acc ∧ H0c L = none ∧ (∀ (i : Nat) (es : List D), ρ1[i]? = some (Sl.ow es) → σ[i]? ≠ some (some (V.ref L))) ∧ lcD g qt q vs ρ1 (fun acc => P (.ow acc) ρ1) (items.drop (i + 1)) acc) H3 := by
      intro H0e Re Se hLe h0e hd
      have Rk : Rp X.K J (n.keep L (.lst vacc)) (L2.wipe σ vs) H' H0e (wipeD ρ1 vs) := (Re.keep hLe h0e L0 hs (Re.od_lst hLe)).wipe vs
      refine ⟨n.keep L (.lst vacc), H0e, _, items[i], _, Rk, hd, wc, fun σ2 ρ2 R2 O2 w2 => ?_⟩
      have ew := wipe_off O2 hv
      refine ⟨ew, n.keep L (.lst vacc), H0e, ρ2, _, R2, w2, fun bb H3 H03 ρ3 R3 S3 w3 => ?_⟩
      have back : ∀ H4 H04 ρ4, Rp X.K J (n.keep L (.lst vacc)) σ2 H4 H04 ρ4 → Same H0e H04 → wipeD ρ4 vs = wipeD ρ1 vs → Rp X.K J n σ H4 H04 ρ1 ∧ H4 L = some (.lst vacc) ∧ H04 L = none := fun H4 H04 ρ4 R4 S4 e4 => by
        have z := R4.wipe vs
        rw [ew, e4] at z
        have z2 := Rp.unkeep L0 Rc.jdom z
        exact ⟨Re.unwipe S4 hc z2, Rp.kept La R4, Rp.kept0 Lb R4⟩
      cases bb with
      | true =>
        refine ⟨n.keep L (.lst vacc), H03, ρ3, _, R3, w3, fun y H4 H04 d ρ4 R4 S4 hy ⟨e4, hlen, w4⟩ => ?_⟩
        obtain ⟨b1, b2, b3⟩ := back H4 H04 ρ4 R4 (S3.trans S4) e4
        refine ⟨vacc, b2, by rw [dpa_len hacc]; exact hlen, H04, vacc ++ [y], acc ++ [d], ?_, ((Sc.trans Se).trans S3).trans S4, upd_same, dpa_app (dpa_mono ((Se.trans S3).trans S4) acc vacc hacc) (dpa_one hy), b3, hs, w4⟩
        -- the list grows: nothing of the state speaks of it
        refine ⟨b1.len, fun c o z => ?_, fun j s z => ?_, b1.sep, fun c o hcn z => ?_, b1.base, b1.fresh, fun z => ?_, b1.jdom, b1.jx⟩
        · rw [upd_ne (ne_of_none z b3)]; exact b1.sub c o z
        · have qq := b1.sl j s z
          cases s with
          | un => trivial
          | da d => exact qq
          | ow ds =>
            obtain ⟨a, xs, p1, p2, p3, p4, p5⟩ := qq
            have na : a ≠ L := fun t => hs j ds z (by rw [p1, t])
            exact ⟨a, xs, p1, by rw [upd_ne na]; exact p2, p3, p4, p5⟩
          | od ds =>
            obtain ⟨a, xs, p1, p2, p3, p4, p5⟩ := qq
            have na : a ≠ L := fun t => b1.od_lst b2 j ds z (by rw [p1, t])
            exact ⟨a, xs, p1, by rw [upd_ne na]; exact p2, p3, p4, p5⟩
          | ja => exact qq
          | jo c => exact ⟨qq.1, qq.2.1, qq.2.2.loc (fun c hcn => upd_ne (fun t => La (by rw [← t]; exact hcn))) (keep_upd b2 rfl)⟩
        · rw [upd_ne (ne_of_none z L0)]; exact b1.fr c o hcn z
        · exact J.loc (fun c hcn => upd_ne (fun t => La (by rw [← t]; exact hcn))) (keep_upd b2 rfl) (b1.jar z)
      | false =>
        obtain ⟨e3, w3⟩ := w3
        obtain ⟨b1, b2, b3⟩ := back H3 H03 ρ3 R3 S3 e3
        exact ⟨H03, vacc, acc, b1, (Sc.trans Se).trans S3, b2, dpa_mono (Se.trans S3) acc vacc hacc, b3, hs, w3⟩
    rcases i3 i Hc H0c x H' items[i] Sc Rc.sub (List.getElem?_eq_getElem hi) hy with ⟨rfl, hd⟩ | ⟨T, xs, hT, rfl, hd⟩
    · exact go H0c Rc (.refl _) hl h0 hd
    · have nT : L ≠ T := ne_of_none hl hT
      exact go _ (Rc.alloc hT) (same_up (Rc.h0 hT)) (by rw [upd_ne nT]; exact hl) (by rw [upd_ne nT]; exact h0) hd
  · have ei : i = items.length := by omega
    subst ei
    rw [List.drop_length] at wc
    exact .inl ⟨i2 _ Hc same (Nat.le_refl _), k _ Hc H0c (.ow acc) ρ1 Rc (S1.trans Sc) ⟨L, vacc, rfl, hl, hacc, h0, L0, hs⟩ wc⟩
theorem pr_lc {ifs : List Expr} {scope : Scope} {own : List (Str × Nat)} {is : List Nat} {qi : QL} {g : QG} {qt : QT} {q : QD} (hc : X.calm = true) (hN : X.N.Nodup) (hi : PIt J X tg iter qi) (ok : BlkOk X.N X.env.scope scope own)
    (hg : ∀ (s : Shared) (H : Hp) (C : Addr) (cl : List (Str × Addr)) (fp : List Addr), PGd J (X.blk s H scope (compEnvC scope cl C X.env) fp) tg is g) (ht : ∀ (s : Shared) (H : Hp) (C : Addr) (cl : List (Str × Addr)) (fp : List Addr), PTsd J (X.blk s H scope (compEnvC scope cl C X.env) fp) ifs qt)
    (he : ∀ (s : Shared) (H : Hp) (C : Addr) (cl : List (Str × Addr)) (fp : List Addr), PD J (X.blk s H scope (compEnvC scope cl C X.env) fp) elt q) (hv : ∀ i ∈ is, i ∈ own.map (·.2)) (hs : ∀ x, foldedSetIterable iter X.env x = pure x := by intro _; rfl) :
    PR J X (.ListComp elt [⟨tg, iter, ifs, 0⟩] scope pos) (qLc qi g qt q (own.map (·.2))) := pe_mono (pe_lc hc hN hi ok hg ht he hs) (lc_mono hv)
theorem psd_setLc {i : Nat} {y : Str} {py spos : Pos} {ifs : List Expr} {scope : Scope} {own : List (Str × Nat)} {is : List Nat} {qi : QL} {g : QG} {qt : QT} {q : QD} (hc : X.calm = true) (hN : X.N.Nodup) (hy : X.N[i]? = some y) (hyl : X.env.scope.names.lookup y = some .local)
    (hsw : swapsWith (.ListComp elt [⟨tg, iter, ifs, 0⟩] scope pos) (some (.Name y py)) spos.line X.env = pure true) (hi : PIt J X tg iter qi) (ok : BlkOk X.N X.env.scope scope own)
    (hg : ∀ (s : Shared) (H : Hp) (C : Addr) (cl : List (Str × Addr)) (fp : List Addr), PGd J (X.blk s H scope (compEnvC scope cl C X.env) fp) tg is g) (ht : ∀ (s : Shared) (H : Hp) (C : Addr) (cl : List (Str × Addr)) (fp : List Addr), PTsd J (X.blk s H scope (compEnvC scope cl C X.env) fp) ifs qt)
    (he : ∀ (s : Shared) (H : Hp) (C : Addr) (cl : List (Str × Addr)) (fp : List Addr), PD J (X.blk s H scope (compEnvC scope cl C X.env) fp) elt q) (hv : ∀ i ∈ is, i ∈ own.map (·.2)) (hs : ∀ x, foldedSetIterable iter X.env x = pure x := by intro _; rfl) :
    PSd J X (.Assign [.Name y py] (.ListComp elt [⟨tg, iter, ifs, 0⟩] scope pos) spos) (qSet i (qLc qi g qt q (own.map (·.2)))) := ps_mono (ps_setLc hc hN hy hyl hsw hi ok hg ht he hs) (set_mono (lc_mono hv))
end

/-! ### a def keeps its promise -/
def slA : Ag → Sl
  | .d x => .da x
  | .j => .ja
def startD (m : Nat) (gs : List Ag) : List Sl := gs.map slA ++ List.replicate (m - gs.length) .un
theorem pair_len {α β : Type} {p : α → β → Prop} : ∀ {xs : List α} {ys : List β}, Paired p xs ys → xs.length = ys.length
  | _, _, .nil => rfl
  | _, _, .cons _ t => by rw [List.length_cons, List.length_cons, pair_len t]
theorem pair_get {α β : Type} {p : α → β → Prop} : ∀ {xs : List α} {ys : List β} {i : Nat} {y : β}, Paired p xs ys → ys[i]? = some y → ∃ x, xs[i]? = some x ∧ p x y
  | _, _, _, _, .nil, e => by simp at e
  | _, _, 0, _, .cons h _, e => by cases e; exact ⟨_, rfl, h⟩
  | _, _, i + 1, _, .cons _ t, e => pair_get (i := i) t e
theorem def_body {X : Cx} {J : Jr} {body : List Stmt} {sc : Scope} {N ps : List Str} {pp : PPr} {qs : QS} {vs : List V} {H : Hp} {Q : VK} {E : XK} (S : FnScope N ps sc) (hl : ∀ gs R, pp gs R → gs.length = ps.length) (hb : PSsd J X body qs)
    (spec : ∀ gs R, pp gs R → qs ⟨fun _ => R (.da .none), fun r _ => R r, fun _ => False, fun _ => False⟩ (startD N.length gs)) (z : spD X.K J pp vs H Q E) : ∃ t, PSs X body t ∧ t { nx := fun _ H' => Q .non H', rt := Q } (L2.start N vs) H := by
  obtain ⟨H0, as, jv, gs, h1, h2, h3, h4, R, h5, h6⟩ := z
  let K := X.K
  refine ⟨_, hb, ⟨H, H0, as, jv⟩, H0, startD N.length gs, ⟨fun _ => R (.da .none), fun r _ => R r, fun _ => False, fun _ => False⟩, ?_, spec gs R h5, fun σ' H' H0' ρ' R' S' z => h6 (.da .none) .non H' z (R'.ret (r := .da .none) Dq.non), fun v σ' H' H0' r ρ' R' S' hr z => h6 r v H' z (R'.ret hr), fun _ _ _ _ _ _ z => z, fun _ _ _ _ _ _ z => z⟩
  have hlen := pair_len h4
  refine ⟨?_, h1, fun i s e => ?_, fun i j ds es _ e _ => ?_, fun a o _ e => e, .refl _, fun a e _ => e, h2, h3, fun i c e => ?_⟩
  · unfold L2.start startD
    rw [List.length_append, List.length_append, List.length_map, List.length_map, List.length_replicate, List.length_replicate, hlen]
  · unfold startD at e
    by_cases q : i < gs.length
    · rw [List.getElem?_append_left (by rw [List.length_map]; exact q), List.getElem?_map] at e
      have hs : (L2.start N vs)[i]? = vs[i]?.map some := by
        unfold L2.start
        rw [List.getElem?_append_left (by rw [List.length_map, hlen]; exact q), List.getElem?_map]
      cases z : gs[i]? with
      | none => rw [z] at e; cases e
      | some g =>
        rw [z] at e
        cases e
        obtain ⟨v, w1, w2⟩ := pair_get h4 z
        cases g with
        | d x => exact ⟨v, by rw [hs, w1]; rfl, w2⟩
        | j => exact ⟨by rw [hs, w1, w2.1]; rfl, w2.2⟩
    · rw [List.getElem?_append_right (by rw [List.length_map]; omega), List.getElem?_replicate] at e
      split at e
      · cases e; trivial
      · cases e
  · unfold startD at e
    by_cases q : i < gs.length
    · rw [List.getElem?_append_left (by rw [List.length_map]; exact q), List.getElem?_map] at e
      cases z : gs[i]? with
      | none => rw [z] at e; cases e
      | some g => rw [z] at e; cases g <;> cases e
    · rw [List.getElem?_append_right (by rw [List.length_map]; omega), List.getElem?_replicate] at e
      split at e <;> cases e
  · exfalso
    unfold startD at e
    by_cases q : i < gs.length
    · rw [List.getElem?_append_left (by rw [List.length_map]; exact q), List.getElem?_map] at e
      cases z : gs[i]? with
      | none => rw [z] at e; cases e
      | some g => rw [z] at e; cases g <;> cases e
    · rw [List.getElem?_append_right (by rw [List.length_map]; omega), List.getElem?_replicate] at e
      split at e <;> cases e
end Zd

set_option Elab.async false
set_option linter.all false
set_option maxRecDepth 100000
set_option maxHeartbeats 4000000
namespace Zd
open PySem PySem.Spec PyProof.Rows L2
/-! ### defs by name -/
/-- a def of the text, as it stands behind the top -/
abbrev FnP (K : PySem.W.Frag) (x : Str) (st : Stmt) (f : Addr) (fd : FuncData) : Prop := FunD K x x (defArgs st) (defBody st) (defScope st) [] [] f fd
/-- its arguments by keywords: idx tells where each parameter's value stands among them -/
def KwOk (K : PySem.W.Frag) (fd : FuncData) (ps ks : List Str) (idx : List Nat) : Prop := ∀ (s : Shared) (ws : List Value), K.In s.heap → ws.length = ks.length → BindsTo s fd ⟨[], ks.zip ws⟩ (ps.zip (idx.map fun i => ws.getD i .none))
/-- a def that keeps its promise, ready to be called -/
structure CalD (P : Program) (w : World) (K : PySem.W.Frag) (mg : Str → Option Value) (base : Heap) (J : Jr) (k : Nat) (x : Str) (st : Stmt) (ps : List Str) (pp : PPr) : Prop where
  nj : J.jx = none
  ex : ∃ f fd, FnOk P w K mg base CX0 k f fd ps (spD K J pp) ∧ mg x = some (.ref f) ∧ FnP K x st f fd ∧ Binds K fd ps []
section
variable {X : Cx} {J : Jr} {e a b c : Expr} {es : List Expr} {pos : Pos}
theorem pr_callC {pp : PPr} {qa : QA} {k k' : Nat} {ps : List Str} {x : Str} {st : Stmt} {p : Pos} (C : CalD X.prog X.w X.K X.mg X.base J k x st ps pp) (hr : Room k' X.A) (hk : k ≤ k') (hg : Gl X x)
    (ha : PAa J X (e :: es) qa) (hdb : (x == ("__debug__" : Str)) = false := by decide) (he : starEach (e :: es) X.env = (false, eval e X.env) :: starEach es X.env := by rfl) (hpl : (backTo pos (starEach es X.env)).any (·.1) = false := by rfl) :
    PR J X (.Call (.Name x p) (e :: es) [] pos) (qCall pp qa) := by
  obtain ⟨f, fd, F, hm, G, hb⟩ := C.ex
  exact pr_call C.nj F (hr.mono hk) hg hm G.kp hb ha hdb he hpl
/-- the keywords' values, from the left -/
abbrev PKa (J : Jr) (X : Cx) (kws : List Keyword) (q : QA) : Prop := PK X kws (tA X.K J q)
theorem pk_mono {kws : List Keyword} {t t' : TA} (h : PK X kws t) (i : ∀ σ H Q, t' σ H Q → t σ H Q) : PK X kws t' := ⟨fun pos pins s σ H Q I w => h.run pos pins s σ H Q I (i _ _ _ w)⟩
theorem pka_nil : PKa J X [] qaNil := pk_mono pk_nil fun σ H Q ⟨n, H0, ρ, P, R, w, k⟩ => k [] H H0 [] ρ R (.refl _) .nil w
theorem pka_d {nm : Option Str} {kpos : Pos} {kws : List Keyword} {qa : QD} {qr : QA} (ha : PD J X e qa) (hr : PKa J X kws qr) : PKa J X (⟨nm, e, kpos⟩ :: kws) (qaD qa qr) :=
  pk_mono (pk_cons ha hr) fun σ H Q ⟨n, H0, ρ, P, R, w, k⟩ => ⟨n, H0, ρ, _, R, w, fun x H1 H01 d ρ1 R1 S1 hd w1 => ⟨n, H01, ρ1, _, R1, w1, fun xs H2 H02 as ρ2 R2 S2 hds w2 =>
    k (x :: xs) H2 H02 (.d d :: as) ρ2 R2 (S1.trans S2) (.cons (dp_mono S2 d x hd) hds) w2⟩⟩
theorem pka_n {nm : Option Str} {kpos : Pos} {kws : List Keyword} {i : Nat} {qr : QA} (ha : PE X e (tVar i)) (hr : PKa J X kws qr) : PKa J X (⟨nm, e, kpos⟩ :: kws) (qaN i qr) :=
  pk_mono (pk_cons ha hr) fun σ H Q ⟨n, H0, ρ, P, R, w, k⟩ => by
    obtain ⟨v, hv⟩ := R.givenV w.1
    exact ⟨v, hv, n, H0, ρ, _, R, w.2, fun xs H2 H02 as ρ2 R2 S2 hds w2 => k (v :: xs) H2 H02 (.n i :: as) ρ2 R2 S2 (.cons hv hds) w2⟩
/-- the arguments in the parameters' order -/
def reord {α : Type} (d : α) (idx : List Nat) (xs : List α) : List α := idx.map fun i => xs.getD i d
def qReord (idx : List Nat) (m : Nat) (q : QA) : QA := fun ρ P => q ρ fun as ρ' => as.length = m ∧ P (reord (.d .none) idx as) ρ'
theorem pe_callK0 {sp : Sp} {k : Nat} {f : Addr} {fd : FuncData} {ps ks : List Str} {idx : List Nat} {x : Str} {p : Pos} {kws : List Keyword} {tk : TA} {E : XK} {CX : CXT} (F : FnOk X.prog X.w X.K X.mg X.base CX k f fd ps sp) (hr : Room k X.A) (hg : Gl X x) (hm : X.mg x = some (.ref f)) (hk : PySem.W.keepIn X.K (.ref f) = true)
    (hb : KwOk X.K fd ps ks idx) (hix : ∀ i ∈ idx, i < ks.length) (hil : idx.length = ps.length) (hx : Passes CX X E) (hkw : PK X kws tk) (hall : (backToKw pos (keywordEach kws X.env)).all (·.1.isSome) = true) (hks : (backToKw pos (keywordEach kws X.env)).filterMap (·.1) = ks)
    (hdb : (x == ("__debug__" : Str)) = false) (hpl : ((backTo pos (starEach [] X.env)).any (·.1) || (backToKw pos (keywordEach kws X.env)).any (·.1.isNone)) = false) :
    PE X (.Call (.Name x p) [] kws pos) (fun σ H Q => tk σ H fun zs H2 => zs.length = ks.length ∧ sp (reord .non idx zs) H2 Q E) := by
  refine ⟨fun pins s σ H Q I h => wpAny_Call_Name_kw (ld_glob I hg hm ?_ hdb)⟩
  refine PySem.W.callWith_KW0 (h₀ := X.base) I.ok.mod.kin hk hall (thn (hkw.run pos pins s σ H _ I h) fun ws s2 ⟨zs, H2, I2, rz, hl, q2⟩ => ⟨I2.kIn, ?_⟩) hpl
  have hlw : ws.length = ks.length := by rw [← rz.length, hl]
  have rr : Vals (reord .non idx zs) (idx.map fun i => ws.getD i .none) := by
    have all : ∀ (js : List Nat), (∀ j ∈ js, j < ks.length) → Vals (reord .non js zs) (js.map fun i => ws.getD i .none) := by
      intro js
      induction js with
      | nil => exact fun _ => .nil
      | cons j r ih =>
        intro hj
        refine .cons ?_ (ih fun i hi => hj i (List.mem_cons_of_mem _ hi))
        have hz : j < zs.length := by rw [hl]; exact hj j (List.mem_cons_self ..)
        obtain ⟨u, hu, ru⟩ := Vals.get rz (List.getElem?_eq_getElem hz)
        show RelV (zs.getD j V.non) (ws.getD j Value.none)
        rw [List.getD_eq_getElem?_getD, List.getD_eq_getElem?_getD, List.getElem?_eq_getElem hz, hu]
        exact ru
    exact all idx hix
  rw [hks]
  refine wpAny_call (codeAny_mono (F.run X.A X.stack s2 H2 ⟨[], ks.zip ws⟩ _ _ Q E hr I2.env0 (hb s2 ws I2.kIn hlw) rr q2) fun r s' hq => ?_)
  cases r with
  | error er => exact hx pins σ H2 s2 er s' I2 hq
  | ok fl =>
    cases fl with
    | ret u => exact I2.after hq
    | _ => exact hq.elim
theorem pair_reord {p : V → A → Prop} (h0 : p .non (.d .none)) : ∀ (idx : List Nat) {vs : List V} {as : List A}, Paired p vs as → Paired p (reord .non idx vs) (reord (.d .none) idx as)
  | [], _, _, _ => .nil
  | i :: r, vs, as, h => by
    refine .cons ?_ (pair_reord h0 r h)
    show p (vs.getD i V.non) (as.getD i (A.d PyData.none))
    rw [List.getD_eq_getElem?_getD, List.getD_eq_getElem?_getD]
    cases e : as[i]? with
    | none =>
      have : vs[i]? = none := List.getElem?_eq_none_iff.mpr (by rw [pair_len h]; exact List.getElem?_eq_none_iff.mp e)
      rw [this]
      exact h0
    | some x =>
      obtain ⟨v, hv, hp⟩ := pair_get h e
      rw [hv]
      exact hp
theorem pr_callKC {pp : PPr} {qa : QA} {k k' : Nat} {ps ks : List Str} {idx : List Nat} {x : Str} {st : Stmt} {p : Pos} {kws : List Keyword} (C : CalD X.prog X.w X.K X.mg X.base J k x st ps pp) (hr : Room k' X.A) (hk : k ≤ k') (hg : Gl X x)
    (hb : ∀ fd (f : Addr), FnP X.K x st f fd → KwOk X.K fd ps ks idx) (ha : PKa J X kws qa) (hix : ∀ i ∈ idx, i < ks.length) (hil : idx.length = ps.length)
    (hall : (backToKw pos (keywordEach kws X.env)).all (·.1.isSome) = true := by rfl) (hks : (backToKw pos (keywordEach kws X.env)).filterMap (·.1) = ks := by rfl)
    (hdb : (x == ("__debug__" : Str)) = false := by decide) (hpl : ((backTo pos (starEach [] X.env)).any (·.1) || (backToKw pos (keywordEach kws X.env)).any (·.1.isNone)) = false := by rfl) :
    PR J X (.Call (.Name x p) [] kws pos) (qCall pp (qReord idx ks.length qa)) := by
  obtain ⟨f, fd, F, hm, G, _⟩ := C.ex
  refine pe_mono (pe_callK0 F (hr.mono hk) hg hm G.kp (hb fd f G) hix hil pass0 ha hall hks hdb hpl) fun σ H Q z => ?_
  obtain ⟨n, H0, ρ, P, R, w, kk⟩ := z
  refine ⟨n, H0, ρ, _, R, w, fun vs H1 H01 as ρ1 R1 S1 hp ⟨hl, w1⟩ => ⟨by rw [pair_len hp, hl], ?_⟩⟩
  have z2 : tCall (spD X.K J pp) [] E0 (fun σ' H' Q' => Q' (reord .non idx vs) H') σ H1 Q := by
    obtain ⟨gs, hg2, w2⟩ := w1
    obtain ⟨H0f, Sf, Rf, hf⟩ := Rp.args (.refl H01) (reord (.d .none) idx as) ρ1 H01 (reord .non idx vs) gs R1 (pair_reord .non idx hp) hg2
    show spD X.K J pp (reord .non idx vs ++ []) H1 Q E0
    rw [List.append_nil]
    refine ⟨H0f, n.as, n.jv, gs, Rf.sub, R1.jar, Rf.jarOk, hf, _, w2, fun r v H' hb hr => ?_⟩
    have hb : behind ρ1 (reord (.d .none) idx as) P r := hb
    have gen : P r (frzs ρ1 (reord (.d .none) idx as)) → Q v H' := fun hp => by
      obtain ⟨H0', S', R', hres⟩ := Rf.call C.nj hr
      exact kk v H' H0' r _ R' ((S1.trans Sf).trans S') hres hp
    cases r with
    | da d =>
      have hb' : if flatD d = true then P (.da d) ρ1 else P (.da d) (frzs ρ1 (reord (.d .none) idx as)) := hb
      by_cases f : flatD d = true
      · rw [if_pos f] at hb'
        have R' := R1.callF C.nj Rf hr
        obtain ⟨H0', _, _, _, _, _, h6⟩ := hr
        exact kk v H' H01 (.da d) ρ1 R' S1 (flat_any h6 f) hb'
      · rw [if_neg f] at hb'
        exact gen hb'
    | un => exact gen hb
    | ow ds => exact gen hb
    | od ds => exact gen hb
    | ja => exact gen hb
    | jo c => exact gen hb
  have z3 : spD X.K J pp (reord .non idx vs ++ []) H1 Q E0 := z2
  rw [List.append_nil] at z3
  exact z3
/-- an item of the def's own list is stored -/
theorem dpa_set {K : PySem.W.Frag} {H : Hp} {v : V} {d : D} (h : Dq K H v d) : ∀ {ds : List D} {vs : List V} (j : Nat), DqAll K H vs ds → DqAll K H (vs.set j v) (ds.set j d)
  | [], _, _, q => by cases q; exact .nil
  | _ :: _, _, 0, q => by cases q with | cons q1 q2 => exact .cons h q2
  | _ :: _, _, j + 1, q => by cases q with | cons q1 q2 => exact .cons q1 (dpa_set h j q2)
def isOw (s : Option Sl) : Prop := match s with
  | some (.ow _) => True
  | _ => False
def putOw (s : Option Sl) (P : List D → Prop) : Prop := match s with
  | some (.ow ds) => P ds
  | _ => False
def qPut (i : Nat) (qe qi : QD) : QS := fun E ρ => qe ρ fun d ρ1 => isOw ρ1[i]? ∧ qi ρ1 fun k ρ2 => ∃ kk, k = .int kk ∧ putOw ρ2[i]? fun ds => ∃ j, ixN ds.length kk = some j ∧ E.nx (ρ2.set i (.ow (ds.set j d)))
theorem psd_put {i : Nat} {qe qi : QD} {o ix : Expr} {p2 : Pos} (ho : PE X o (tVar i)) (hi : PD J X ix qi) (he : PD J X e qe) (hs : swapsWithSole [.Subscript o ix p2] e pos.line X.env = pure false := by rfl) (hw : swappedStores [.Subscript o ix p2] e X.env = pure none := by rfl)
    (h1 : (assignEach [.Subscript o ix p2] X.env).map (·.2) = [assign (.Subscript o ix p2) X.env] := by rfl)
    (hz : ∀ u, assign (.Subscript o ix p2) X.env u = (do
      let ov ← holding [u] (eval o X.env)
      let iv ← holding [u, ov] (eval ix X.env)
      standAt p2
      holding [u, ov, iv] (setItem ov iv u)
      release [u, ov, iv] []) := by intro _; rfl) : PSd J X (.Assign [.Subscript o ix p2] e pos) (qPut i qe qi) :=
  ps_mono (ps_asg he (pg_sub ho hi set_list hz) hs hw h1) fun D σ H ⟨n, H0, ρ, E, R, w, k, _⟩ => ⟨n, H0, ρ, _, R, w, fun v H1 H01 d ρ1 R1 S1 hd ⟨ho, w1⟩ => by
    cases e1 : ρ1[i]? with
    | none => rw [e1] at ho; exact ho.elim
    | some s =>
      rw [e1] at ho
      cases s with
      | ow ds =>
        obtain ⟨a, xs, g1, g2, g3, g4, g5⟩ := R1.sl i _ e1
        refine ⟨_, g1, n, H01, ρ1, _, R1, w1, fun u H2 H02 kd ρ2 R2 S2 hk ⟨kk, ek, w2⟩ => ?_⟩
        subst ek
        cases e2 : ρ2[i]? with
        | none => rw [e2] at w2; exact w2.elim
        | some s2 =>
          rw [e2] at w2
          cases s2 with
          | ow es =>
            obtain ⟨j, hj, hp⟩ := w2
            obtain ⟨b, ys, f1, f2, f3, f4, f5⟩ := R2.sl i _ e2
            rw [g1] at f1
            cases f1
            exact ⟨a, ys, kk, j, rfl, dp_int hk, f2, by rw [dpa_len f3]; exact hj, k σ _ H02 _ (R2.own_put e2 g1 (dpa_set (dp_mono S2 d v hd) j f3)) (S1.trans S2) hp⟩
          | _ => exact w2.elim
      | _ => exact ho.elim⟩
/-- data that the module holds -/
theorem pd_glob {x : Str} {d : D} {p : Pos} (hg : Gl X x) (h : ∃ u v, X.mg x = some u ∧ RelV v u ∧ ∀ H0, Dq X.K H0 v d) (hdb : (x == ("__debug__" : Str)) = false := by decide) : PD J X (.Name x p) (qC d) := by
  obtain ⟨u, v, h1, h2, h3⟩ := h
  exact pd_c (pe_glob hg h1 h2 hdb) h3
/-- e.bit_length() of an int -/
def qBits (q : QD) : QD := fun ρ P => q ρ fun d ρ' => ∃ i, d = .int i ∧ P (.int (Builtin.Int.intBits i)) ρ'
theorem pd_bits {q : QD} {apos : Pos} (ho : PD J X e q) (hbase : attributeBase e "bit_length" X.env (eval e X.env) = eval e X.env := by rfl) (hline : (apos.endLine == pos.line) = true := by rfl) : PD J X (.Call (.Attribute e "bit_length" apos) [] [] pos) (qBits q) :=
  pe_mono (pe_bits ho hbase hline) fun σ H Q ⟨n, H0, ρ, P, R, w, k⟩ => ⟨n, H0, ρ, _, R, w, fun v H1 H01 d ρ1 R1 S1 hd ⟨i, ei, hp⟩ => by
    subst ei
    exact ⟨i, dp_int hd, k _ H1 H01 _ ρ1 R1 S1 (.int _) hp⟩⟩
end
theorem kw_of {K : PySem.W.Frag} {x : Str} {st : Stmt} {f : Addr} {fd : FuncData} {ps ks : List Str} {idx : List Nat} (F : FnP K x st f fd)
    (h : ∀ (kV doc pm : Value) (an : Option Addr) (cdv ct : Value) (ws : List Value), ws.length = ks.length → bindArgs (PySem.W.fnOf x x (defArgs st) (defBody st) (defScope st) .none kV doc pm an cdv ct) ⟨[], ks.zip ws⟩ = pure (ps.zip (idx.map fun i => ws.getD i .none))) : KwOk K fd ps ks idx := by
  obtain ⟨oc, od, dV, kV, doc, pm, an, cdv, ct, osl, rfl, lk, hcd, hD, hK⟩ := F.ex
  rcases hD with ⟨_, rfl⟩ | ⟨e, _⟩
  · exact fun s ws _ hl => .of_eq (h kV doc pm an cdv ct ws hl)
  · exact absurd rfl e
/-- a def's promise from its body; by its place in the text -/
theorem defD_ok {P : Program} {w : World} {K : PySem.W.Frag} {mg : Str → Option Value} {base : Heap} {J : Jr} {x : Str} {st : Stmt} {f : Addr} {fd : FuncData} {N ps : List Str} {k : Nat} {pp : PPr} {qs : QS} (hj : J.jx = none) (F : FnP K x st f fd) (hx : mg x = some (.ref f)) (S : FnScope N ps (defScope st)) (hB : Binds K fd ps [])
    (hl : ∀ gs R, pp gs R → gs.length = ps.length) (hb : ∀ (cdv : Value) (A : Around) (outer : List Env) (s : Shared) (H : Hp) (E : XK), Room k (A.deeper (envOfC x (defScope st) s.heap.objs.size f cdv)) →
      PSsd J (cxOf CX0 P w K mg base N x (defScope st) f cdv A outer s H E).nox (defBody st) qs)
    (spec : ∀ gs R, pp gs R → qs ⟨fun _ => R (.da .none), fun r _ => R r, fun _ => False, fun _ => False⟩ (startD N.length gs)) : CalD P w K mg base J (k + 1) x st ps pp := by
  refine ⟨hj, f, fd, ?_, hx, F, hB⟩
  refine FunD.ok F S (fun vs H Q E ⟨H0, as, jv, gs, _, _, _, h, R, h2, _⟩ => by rw [pair_len h]; exact hl gs R h2) (fun cdv A outer s H vs Q E hr z => ?_)
  obtain ⟨t, h1, h2⟩ := def_body S hl (hb cdv A outer s H E hr) spec z
  exact ⟨t, h1.nox, h2⟩
/-- a promise that is never asked for -/
theorem CalD.none {P : Program} {w : World} {K : PySem.W.Frag} {mg : Str → Option Value} {base : Heap} {J : Jr} {x : Str} {st : Stmt} {f : Addr} {fd : FuncData} {N ps : List Str} {k : Nat} {pp : PPr} (hj : J.jx = Option.none) (F : FnP K x st f fd) (hx : mg x = some (.ref f)) (S : FnScope N ps (defScope st)) (hB : Binds K fd ps [])
    (hn : ∀ gs R, pp gs R → False) : CalD P w K mg base J k x st ps pp := by
  have no : ∀ vs H Q E, spD K J pp vs H Q E → False := fun vs H Q E ⟨_, _, _, gs, _, _, _, _, R, h, _⟩ => hn gs R h
  exact ⟨hj, f, fd, ⟨fun vs H Q E z => (no vs H Q E z).elim, fun A o s H args us vs Q E _ _ _ _ z => (no vs H Q E z).elim⟩, hx, F, hB⟩
end Zd

set_option Elab.async false
set_option linter.all false
set_option maxRecDepth 100000
set_option maxHeartbeats 4000000
namespace Zd
open PySem PySem.Spec PyProof.Rows L2
/-! ### the open drawing thing: its parts -/
/-- what stands at a part's place -/
def NdIs (K : PySem.W.Frag) (H : Hp) (bs : List Addr) (x : V) : Nd → Prop
  | .d d => Dq K H x d ∧ isT d = true
  | .l ds => ∃ b ys, x = .ref b ∧ b ∈ bs ∧ H b = some (.lst ys) ∧ DqAll K H ys ds ∧ isTs ds = true
  | .m ks ds => ∃ b ys, x = .ref b ∧ b ∈ bs ∧ H b = some (.dK (ks.zip ys)) ∧ ks.length = ys.length ∧ DqAll K H ys ds ∧ isTs ds = true
theorem NdIs.more {K : PySem.W.Frag} {H : Hp} {bs : List Addr} {b0 : Addr} {x : V} : ∀ {e : Nd}, NdIs K H bs x e → NdIs K H (b0 :: bs) x e
  | .d _, h => h
  | .l _, ⟨b, ys, h1, h2, h3⟩ => ⟨b, ys, h1, List.mem_cons_of_mem _ h2, h3⟩
  | .m _ _, ⟨b, ys, h1, h2, h3⟩ => ⟨b, ys, h1, List.mem_cons_of_mem _ h2, h3⟩
theorem NdAll.get {K : PySem.W.Frag} {H : Hp} : ∀ {p : Nat} {xs : List V} {es : List Nd} {bs : List Addr} {e : Nd}, NdAll K H xs es bs → es[p]? = some e → ∃ x, xs[p]? = some x ∧ NdIs K H bs x e
  | 0, _, _, _, _, .dat h ht t, z => by cases z; exact ⟨_, rfl, h, ht⟩
  | 0, _, _, _, _, .lst h hd ht hn t, z => by cases z; exact ⟨_, rfl, _, _, rfl, List.mem_cons_self .., h, hd, ht⟩
  | 0, _, _, _, _, .dic h hl hd ht hn t, z => by cases z; exact ⟨_, rfl, _, _, rfl, List.mem_cons_self .., h, hl, hd, ht⟩
  | p + 1, _, _, _, _, .dat h ht t, z => NdAll.get (p := p) t z
  | p + 1, _, _, _, _, .lst h hd ht hn t, z => by
    obtain ⟨x, h1, h2⟩ := NdAll.get (p := p) t z
    exact ⟨x, h1, h2.more⟩
  | p + 1, _, _, _, _, .dic h hl hd ht hn t, z => by
    obtain ⟨x, h1, h2⟩ := NdAll.get (p := p) t z
    exact ⟨x, h1, h2.more⟩
theorem NdAll.len {K : PySem.W.Frag} {H : Hp} : ∀ {xs : List V} {es : List Nd} {bs : List Addr}, NdAll K H xs es bs → xs.length = es.length
  | _, _, _, .nil => rfl
  | _, _, _, .dat _ _ t => by rw [List.length_cons, List.length_cons, t.len]
  | _, _, _, .lst _ _ _ _ t => by rw [List.length_cons, List.length_cons, t.len]
  | _, _, _, .dic _ _ _ _ _ t => by rw [List.length_cons, List.length_cons, t.len]
/-- a datum is stored -/
theorem NdAll.put_d {K : PySem.W.Frag} {H : Hp} {x : V} {d : D} (hx : Dq K H x d) (ht : isT d = true) : ∀ {p : Nat} {xs : List V} {es : List Nd} {bs : List Addr} {d0 : D}, NdAll K H xs es bs → es[p]? = some (.d d0) → NdAll K H (xs.set p x) (es.set p (.d d)) bs
  | 0, _, _, _, _, .dat h _ t, _ => .dat hx ht t
  | 0, _, _, _, _, .lst .., z => by cases z
  | 0, _, _, _, _, .dic .., z => by cases z
  | p + 1, _, _, _, _, .dat h ht' t, z => .dat h ht' (NdAll.put_d hx ht (p := p) t z)
  | p + 1, _, _, _, _, .lst h hd ht' hn t, z => .lst h hd ht' hn (NdAll.put_d hx ht (p := p) t z)
  | p + 1, _, _, _, _, .dic h hl hd ht' hn t, z => .dic h hl hd ht' hn (NdAll.put_d hx ht (p := p) t z)
/-- a list within becomes another one -/
theorem NdAll.put_l {K : PySem.W.Frag} {H : Hp} {b : Addr} {ys : List V} {ds : List D} (hd' : DqAll K (upd H b (.lst ys)) ys ds) (ht : isTs ds = true) : ∀ {p : Nat} {xs : List V} {es : List Nd} {bs : List Addr} {ds0 : List D}, NdAll K H xs es bs → es[p]? = some (.l ds0) → xs[p]? = some (.ref b) →
    NdAll K (upd H b (.lst ys)) xs (es.set p (.l ds)) bs
  | 0, _, _, _, _, .dat .., z, _ => by cases z
  | 0, _, _, _, _, .lst h hd ht' hn t, z, e => by
    cases e
    exact .lst upd_same hd' ht hn (t.loc (keep_upd h rfl) fun c hc => upd_ne (fun q => hn (by rw [← q]; exact hc)))
  | 0, _, _, _, _, .dic .., z, _ => by cases z
  | p + 1, _, _, _, _, .dat h ht' t, z, e => by
    obtain ⟨x, h1, b1, ys1, h2, h3, h4, _⟩ := t.get (p := p) z
    have e' := h1.symm.trans ((List.getElem?_cons_succ).symm.trans e)
    cases e'
    cases h2
    exact .dat (dq_keep (keep_upd h4 rfl) _ _ ht' h) ht' (NdAll.put_l hd' ht (p := p) t z e)
  | p + 1, _, _, _, _, .lst h hd ht' hn t, z, e => by
    obtain ⟨x, h1, b1, ys1, h2, h3, h4, _⟩ := t.get (p := p) z
    have e' := h1.symm.trans ((List.getElem?_cons_succ).symm.trans e)
    cases e'
    cases h2
    exact .lst (by rw [upd_ne (fun q => hn (by rw [q]; exact h3))]; exact h) (dqa_keep (keep_upd h4 rfl) _ _ ht' hd) ht' hn (NdAll.put_l hd' ht (p := p) t z e)
  | p + 1, _, _, _, _, .dic h hl hd ht' hn t, z, e => by
    obtain ⟨x, h1, b1, ys1, h2, h3, h4, _⟩ := t.get (p := p) z
    have e' := h1.symm.trans ((List.getElem?_cons_succ).symm.trans e)
    cases e'
    cases h2
    exact .dic (by rw [upd_ne (fun q => hn (by rw [q]; exact h3))]; exact h) hl (dqa_keep (keep_upd h4 rfl) _ _ ht' hd) ht' hn (NdAll.put_l hd' ht (p := p) t z e)
/-- whatever it holds, it is the drawing thing -/
def JOpen (K : PySem.W.Frag) (J : Jr) : Prop := ∀ as v H c, JAt K H as v c → J.is as v H
section
variable {K : PySem.W.Frag} {J : Jr} {n : En} {σ : L2.St} {H H0 : Hp} {ρ : List Sl}
theorem Rp.jput (R : Rp K J n σ H H0 ρ) {i : Nat} {c c' : Jc} {b : Addr} {o : HO} (e : ρ[i]? = some (.jo c)) (hb : b ∈ n.as) (jo : JOpen K J) (h : JAt K (upd H b o) n.as n.jv c') : Rp K J n σ (upd H b o) H0 (ρ.set i (.jo c')) where
  len := by rw [List.length_set]; exact R.len
  sub := fun a u z => by
    have nb : a ≠ b := fun q => by rw [q, R.jh0 hb] at z; cases z
    rw [upd_ne nb]
    exact R.sub a u z
  sl := fun j s z => by
    rw [get_set] at z
    have q := R.sl i _ e
    by_cases ij : i = j
    · rw [if_pos ij] at z
      split at z
      · cases z
        subst ij
        exact ⟨q.1, q.2.1, h⟩
      · cases z
    · rw [if_neg ij] at z
      have w := R.sl j s z
      cases s with
      | un => trivial
      | da d => exact w
      | ow ds =>
        obtain ⟨a, xs, w1, w2, w3, w4, w5⟩ := w
        exact ⟨a, xs, w1, by rw [upd_ne (fun t => (R.jdom b hb).2 (by rw [← t]; exact w5))]; exact w2, w3, w4, w5⟩
      | od ds =>
        obtain ⟨a, xs, w1, w2, w3, w4, w5⟩ := w
        exact ⟨a, xs, w1, by rw [upd_ne (fun t => (R.jdom b hb).2 (by rw [← t]; exact w5))]; exact w2, w3, w4, w5⟩
      | ja => exact w
      | jo c2 =>
        have := (R.jx i c e).symm.trans (R.jx j c2 z)
        cases this
        exact absurd rfl ij
  sep := fun j k ds es hn e1 e2 => by
    have un : ∀ {m : Nat} {es : List D}, (ρ.set i (.jo c'))[m]? = some (.ow es) → ρ[m]? = some (.ow es) := fun {m es} z => by
      rw [get_set] at z
      by_cases q : i = m
      · rw [if_pos q] at z
        split at z <;> cases z
      · rw [if_neg q] at z
        exact z
    exact R.sep j k ds es hn (un e1) (un e2)
  fr := fun a u ha z => by
    rw [upd_ne (fun q => ha (by rw [q]; exact hb))]
    exact R.fr a u ha z
  base := R.base
  fresh := R.fresh
  jar := fun _ => jo _ _ _ _ h
  jdom := R.jdom
  jx := fun j c2 z => by
    rw [get_set] at z
    by_cases q : i = j
    · subst q
      exact R.jx i c e
    · rw [if_neg q] at z
      exact R.jx j c2 z
/-- a list's part k of the open thing at slot i -/
theorem Rp.jpart (R : Rp K J n σ H H0 ρ) {i k : Nat} {c : Jc} {e : Nd} (h : ρ[i]? = some (.jo c)) (ht : c.top = none) (hk : c.es[k]? = some e) :
    ∃ j xs bs x, σ[i]? = some (some (.ref j)) ∧ n.as = j :: bs ∧ n.jv = .ref j ∧ H j = some (.lst xs) ∧ NdAll K H xs c.es bs ∧ j ∉ bs ∧ xs[k]? = some x ∧ NdIs K H bs x e := by
  obtain ⟨h1, h2, j, xs, bs, e1, e2, e3, e4, e5, e6⟩ := R.sl i _ h
  rw [ht] at e3
  obtain ⟨x, g1, g2⟩ := e4.get hk
  exact ⟨j, xs, bs, x, by rw [h1, e2], e1, e2, e3, e4, e5, g1, g2⟩
end
section
variable {X : Cx} {J : Jr} {e a b c : Expr} {es : List Expr} {pos : Pos}
/-- part k of the list in slot i -/
def tIn (i k : Nat) : TE := fun σ H Q => ∃ a xs v, σ[i]? = some (some (.ref a)) ∧ H a = some (.lst xs) ∧ xs[k]? = some v ∧ Q v H
theorem pe_in {o : Expr} {i k : Nat} {z : Int} {j : Nat} {p1 : Pos} (ho : PE X o (tVar i)) (hz : z = (k : Int)) : PE X (.Subscript o (.Constant (.int z) j p1) pos) (tIn i k) :=
  pe_mono (pe_ix ix_seq ho pe_int (fun _ _ => rfl)) fun σ H Q ⟨a, xs, v, h1, h2, h3, q⟩ => ⟨.ref a, h1, .inl ⟨a, xs, z, v, rfl, rfl, SqL.of h2, by
    subst hz
    have l : k < xs.length := (List.getElem?_eq_some_iff.mp h3).1
    unfold atI ixN
    rw [if_pos (by omega), if_pos (by omega)]
    exact h3, q⟩⟩
/-- a datum is read -/
def qJd (i k : Nat) : QR := fun ρ P => match ρ[i]? with
  | some (.jo c) => (match c.es[k]? with
    | some (.d d) => c.top = none ∧ flatD d = true ∧ P (.da d) ρ
    | _ => False)
  | _ => False
theorem pr_jd {o : Expr} {i k : Nat} {z : Int} {j : Nat} {p1 : Pos} (ho : PE X o (tVar i)) (hz : z = (k : Int)) : PR J X (.Subscript o (.Constant (.int z) j p1) pos) (qJd i k) := pe_mono (pe_in ho hz) fun σ H Q ⟨n, H0, ρ, P, R, w, kk⟩ => by
  unfold qJd at w
  cases e : ρ[i]? with
  | none => rw [e] at w; exact w.elim
  | some s =>
    rw [e] at w
    cases s with
    | jo c =>
      have w : (match c.es[k]? with
        | some (.d d) => c.top = none ∧ flatD d = true ∧ P (.da d) ρ
        | _ => False) := w
      cases e2 : c.es[k]? with
      | none => rw [e2] at w; exact w.elim
      | some f =>
        rw [e2] at w
        cases f with
        | d d =>
          obtain ⟨ht, hf, hp⟩ := w
          obtain ⟨j, xs, bs, x, h1, _, _, h4, _, _, h7, h8, _⟩ := R.jpart e ht e2
          exact ⟨j, xs, x, h1, h4, h7, kk x H H0 (.da d) ρ R (.refl _) (flat_any h8 hf) hp⟩
        | _ => exact w.elim
    | _ => exact w.elim
/-- the part of a slot's open thing -/
def jPart (ρ : List Sl) (i k : Nat) (f : Jc → Nd → Prop) : Prop := match ρ[i]? with
  | some (.jo c) => (match c.es[k]? with
    | some e => c.top = none ∧ f c e
    | none => False)
  | _ => False
theorem jPart.of {ρ : List Sl} {i k : Nat} {f : Jc → Nd → Prop} (h : jPart ρ i k f) : ∃ c e, ρ[i]? = some (.jo c) ∧ c.es[k]? = some e ∧ c.top = none ∧ f c e := by
  unfold jPart at h
  cases e : ρ[i]? with
  | none => rw [e] at h; exact h.elim
  | some s =>
    rw [e] at h
    cases s with
    | jo c =>
      have h : (match c.es[k]? with
        | some e => c.top = none ∧ f c e
        | none => False) := h
      cases e2 : c.es[k]? with
      | none => rw [e2] at h; exact h.elim
      | some g => rw [e2] at h; exact ⟨c, g, rfl, e2, h.1, h.2⟩
    | _ => exact h.elim
def Jc.put (c : Jc) (k : Nat) (e : Nd) : Jc := { c with es := c.es.set k e }
/-- jar[k] = e -/
def qJput (i k : Nat) (qe : QD) : QS := fun E ρ => qe ρ fun d ρ1 => jPart ρ1 i k fun c e => (∃ d0, e = .d d0) ∧ isT d = true ∧ E.nx (ρ1.set i (.jo (c.put k (.d d))))
theorem psd_jput {i k : Nat} {qe : QD} {o : Expr} {z : Int} {j : Nat} {p1 p2 : Pos} (jo : JOpen X.K J) (ho : PE X o (tVar i)) (hz' : z = (k : Int)) (he : PD J X e qe)
    (hs : swapsWithSole [.Subscript o (.Constant (.int z) j p1) p2] e pos.line X.env = pure false := by rfl) (hw : swappedStores [.Subscript o (.Constant (.int z) j p1) p2] e X.env = pure none := by rfl)
    (h1 : (assignEach [.Subscript o (.Constant (.int z) j p1) p2] X.env).map (·.2) = [assign (.Subscript o (.Constant (.int z) j p1) p2) X.env] := by rfl)
    (hz : ∀ u, assign (.Subscript o (.Constant (.int z) j p1) p2) X.env u = (do
      let ov ← holding [u] (eval o X.env)
      let iv ← holding [u, ov] (eval (.Constant (.int z) j p1) X.env)
      standAt p2
      holding [u, ov, iv] (setItem ov iv u)
      release [u, ov, iv] []) := by intro _; rfl) : PSd J X (.Assign [.Subscript o (.Constant (.int z) j p1) p2] e pos) (qJput i k qe) :=
  ps_mono (ps_asg he (pg_sub ho pe_int set_list hz) hs hw h1) fun D σ H ⟨n, H0, ρ, E, R, w, kk, _⟩ => ⟨n, H0, ρ, _, R, w, fun v H1 H01 d ρ1 R1 S1 hd w1 => by
    obtain ⟨c, e0, g1, g2, g3, ⟨d0, g4⟩, g5, g6⟩ := w1.of
    subst g4
    obtain ⟨j, xs, bs, x, q1, q2, q3, q4, q5, q6, q7, _⟩ := R1.jpart g1 g3 g2
    have l : k < xs.length := (List.getElem?_eq_some_iff.mp q7).1
    refine ⟨.ref j, q1, j, xs, z, k, rfl, rfl, q4, ?_, ?_⟩
    · subst hz'
      unfold ixN
      rw [if_pos (by omega), if_pos (by omega)]
      rfl
    · have hj : j ∈ n.as := by rw [q2]; exact List.mem_cons_self ..
      refine kk σ _ H01 _ (R1.jput (c' := c.put k (.d d)) g1 hj jo ?_) S1 g6
      refine ⟨j, xs.set k v, bs, q2, q3, ?_, ?_, q6, fun ks hks => ?_⟩
      · show upd H1 j (.lst (xs.set k v)) j = some (topHO c.top (xs.set k v))
        rw [upd_same, g3]
        rfl
      · have t := q5.loc (H' := upd H1 j (.lst (xs.set k v))) (keep_upd q4 rfl) (fun b hb => upd_ne (fun q => q6 (by rw [← q]; exact hb)))
        exact t.put_d (dq_keep (keep_upd q4 rfl) _ _ g5 (dp_mono R1.sub _ _ hd)) g5 g2
      · have : (none : Option (List Str)) = some ks := g3.symm.trans hks
        cases this⟩
theorem NdAll.same {K : PySem.W.Frag} {H H1 : Hp} : ∀ {k : Nat} {xs ys : List V} {es : List Nd} {bs : List Addr} {ds : List D}, NdAll K H xs es bs → NdAll K H1 ys es bs → es[k]? = some (.l ds) → xs[k]? = ys[k]?
  | 0, _, _, _, _, _, .dat .., .dat .., z => by cases z
  | 0, _, _, _, _, _, .lst .., .lst .., z => rfl
  | 0, _, _, _, _, _, .dic .., .dic .., z => rfl
  | k + 1, _, _, _, _, _, .dat _ _ t, .dat _ _ u, z => NdAll.same (k := k) t u z
  | k + 1, _, _, _, _, _, .lst _ _ _ _ t, .lst _ _ _ _ u, z => NdAll.same (k := k) t u z
  | k + 1, _, _, _, _, _, .dic _ _ _ _ _ t, .dic _ _ _ _ _ u, z => NdAll.same (k := k) t u z
theorem Rp.jlist {K : PySem.W.Frag} {n : En} {σ : L2.St} {H H0 : Hp} {ρ : List Sl} (R : Rp K J n σ H H0 ρ) (jo : JOpen K J) {i k : Nat} {c : Jc} {ds ds' : List D} (h : ρ[i]? = some (.jo c)) (ht : c.top = none) (hk : c.es[k]? = some (.l ds)) :
    ∃ j xs b ys, σ[i]? = some (some (.ref j)) ∧ H j = some (.lst xs) ∧ xs[k]? = some (.ref b) ∧ H b = some (.lst ys) ∧ DqAll K H ys ds ∧ isTs ds = true ∧
      (∀ (H' H0' : Hp) (ρ' : List Sl), Rp K J n σ H' H0' ρ' → ρ'[i]? = some (.jo c) → ∀ j' xs', σ[i]? = some (some (.ref j')) → H' j' = some (.lst xs') → xs'[k]? = some (.ref b)) ∧
      ∀ ys', DqAll K H ys' ds' → isTs ds' = true → Rp K J n σ (upd H b (.lst ys')) H0 (ρ.set i (.jo (c.put k (.l ds')))) := by
  obtain ⟨j, xs, bs, x, q1, q2, q3, q4, q5, q6, q7, b, ys, rfl, hb, g1, g2, g3⟩ := R.jpart h ht hk
  refine ⟨j, xs, b, ys, q1, q4, q7, g1, g2, g3, fun H' H0' ρ' R' e' j1 xs1 s1 s2 => ?_, fun ys' hy ht' => ?_⟩
  · obtain ⟨j', xs', bs', x', p1, p2, p3, p4, p5, p6, p7, b', ys', rfl, hb', f1, f2, f3⟩ := R'.jpart e' ht hk
    rw [q2] at p2
    cases p2
    rw [s1] at p1
    cases p1
    rw [s2] at p4
    cases p4
    exact (q5.same p5 hk).symm.trans q7
  · have ba : b ∈ n.as := by rw [q2]; exact List.mem_cons_of_mem _ hb
    refine R.jput h ba jo ⟨j, xs, bs, q2, q3, ?_, q5.put_l (dqa_keep (keep_upd g1 rfl) _ _ ht' hy) ht' hk q7, q6, fun ks hks => ?_⟩
    · show upd H b (.lst ys') j = some (topHO c.top xs)
      rw [upd_ne (fun q => q6 (by rw [q]; exact hb)), ht]
      exact q4
    · have : (none : Option (List Str)) = some ks := ht.symm.trans hks
      cases this
/-- len(jar[k]) -/
def qJlen (i k : Nat) : QR := fun ρ P => jPart ρ i k fun _ e => ∃ ds, e = .l ds ∧ P (.da (.int ds.length)) ρ
theorem pr_jlen {o : Expr} {i k : Nat} {z : Int} {j : Nat} {p1 p2 p3 : Pos} {x : Str} (ho : PE X o (tVar i)) (hz : z = (k : Int)) (hg : Gl X x) (hm : X.mg x = none) (hv : bootBuiltins x = some (.builtin "len")) (hn : x ≠ "__name__" := by decide) (hdb : (x == ("__debug__" : Str)) = false := by decide)
    (he : starEach [.Subscript o (.Constant (.int z) j p1) p2] X.env = (false, eval (.Subscript o (.Constant (.int z) j p1) p2) X.env) :: starEach [] X.env := by rfl) (hpl : (backTo pos (starEach [] X.env)).any (·.1) = false := by rfl) :
    PR J X (.Call (.Name x p3) [.Subscript o (.Constant (.int z) j p1) p2] [] pos) (qJlen i k) :=
  pe_mono (pe_callB call_len hg hm hv (pa_cons (pe_in ho hz) pa_nil he) hn hdb he hpl) fun σ H Q ⟨n, H0, ρ, P, R, w, kk⟩ => by
    obtain ⟨c, e0, g1, g2, g3, ds, rfl, hp⟩ := w.of
    obtain ⟨j, xs, bs, x, q1, q2, q3, q4, q5, q6, q7, b, ys, rfl, hb, f1, f2, f3⟩ := R.jpart g1 g3 g2
    exact ⟨j, xs, .ref b, q1, q4, q7, .ref b, ds.length, rfl, .inl ⟨ys, SqL.of f1, (dpa_len f2).symm⟩, kk _ H H0 (.da (.int ds.length)) ρ R (.refl _) (Dq.int _) hp⟩
/-- jar[k].append(e) -/
def qJapp (i k : Nat) (qe : QD) : QR := fun ρ P => jPart ρ i k fun c e => ∃ ds, e = .l ds ∧ qe ρ fun d ρ1 => ρ1[i]? = some (.jo c) ∧ isT d = true ∧ ds.length < sizeLine ∧ P (.da .none) (ρ1.set i (.jo (c.put k (.l (ds ++ [d])))))
theorem isTs_app : ∀ {ds es : List D}, isTs ds = true → isTs es = true → isTs (ds ++ es) = true
  | [], _, _, h => h
  | d :: ds, es, h, h' => by
    have w : (isT d && isTs ds) = true := h
    obtain ⟨w1, w2⟩ := Bool.and_eq_true_iff.mp w
    exact Bool.and_eq_true_iff.mpr ⟨w1, isTs_app w2 h'⟩
theorem isTs_one {d : D} (h : isT d = true) : isTs [d] = true := Bool.and_eq_true_iff.mpr ⟨h, rfl⟩
theorem isTs_take : ∀ (m : Nat) {ds : List D}, isTs ds = true → isTs (ds.take m) = true
  | 0, _, _ => rfl
  | _ + 1, [], _ => rfl
  | m + 1, d :: ds, h => by
    have w : (isT d && isTs ds) = true := h
    obtain ⟨w1, w2⟩ := Bool.and_eq_true_iff.mp w
    exact Bool.and_eq_true_iff.mpr ⟨w1, isTs_take m w2⟩
theorem isTs_set : ∀ (m : Nat) {ds : List D} {d : D}, isT d = true → isTs ds = true → isTs (ds.set m d) = true
  | _, [], _, _, _ => rfl
  | 0, e :: ds, d, h', h => by
    have w : (isT e && isTs ds) = true := h
    exact Bool.and_eq_true_iff.mpr ⟨h', (Bool.and_eq_true_iff.mp w).2⟩
  | m + 1, e :: ds, d, h', h => by
    have w : (isT e && isTs ds) = true := h
    exact Bool.and_eq_true_iff.mpr ⟨(Bool.and_eq_true_iff.mp w).1, isTs_set m h' (Bool.and_eq_true_iff.mp w).2⟩
theorem pr_japp {o : Expr} {i k : Nat} {z : Int} {j : Nat} {p1 p2 apos : Pos} {qa : QD} (jo : JOpen X.K J) (ho : PE X o (tVar i)) (hz : z = (k : Int)) (ha : PD J X e qa)
    (hbase : attributeBase (.Subscript o (.Constant (.int z) j p1) p2) "append" X.env (eval (.Subscript o (.Constant (.int z) j p1) p2) X.env) = eval (.Subscript o (.Constant (.int z) j p1) p2) X.env := by rfl)
    (hfew : ((backTo pos (starEach [e] X.env)).all (fun x => !x.1) && (backToKw pos (keywordEach [] X.env)).all (fun x => x.1.isSome) && decide ([e].length + ([] : List Keyword).length + (if ([] : List Keyword).isEmpty then 0 else 1) < 30)) = true := by rfl)
    (hline : (apos.endLine == pos.line) = true := by rfl) (hs : starEach [e] X.env = (false, eval e X.env) :: starEach [] X.env := by rfl) (hplain : (backTo pos (starEach [] X.env)).any (·.1) = false := by rfl) :
    PR J X (.Call (.Attribute (.Subscript o (.Constant (.int z) j p1) p2) "append" apos) [e] [] pos) (qJapp i k qa) :=
  pe_mono (pe_bm PySem.F.plainAttrs_list PySem.F.slot_list_append PySem.F.type_list_append mt_append (pe_in ho hz) (pa_cons ha pa_nil hs) hbase hfew hline hs hplain) fun σ H Q ⟨n, H0, ρ, P, R, w, kk⟩ => by
    obtain ⟨c, e0, g1, g2, g3, ds, rfl, w⟩ := w.of
    obtain ⟨j, xs, b, ys, q1, q2, q3, q4, q5, q6, q7, _⟩ := R.jlist jo (ds' := ds) g1 g3 g2
    refine ⟨j, xs, .ref b, q1, q2, q3, .inl ⟨rfl, ys, SqL.of q4⟩, n, H0, ρ, _, R, w, fun v H1 H01 d ρ1 R1 S1 hd ⟨u1, u2, u3, u4⟩ => ?_⟩
    obtain ⟨j', xs', b', ys', r1, r2, r3, r4, r5, r6, _, r8⟩ := R1.jlist jo (ds' := ds ++ [d]) u1 g3 g2
    have eb : b = b' := by
      have := (q7 H1 H01 ρ1 R1 u1 j' xs' r1 r2).symm.trans r3
      cases this
      rfl
    subst eb
    exact ⟨b, ys', v, rfl, rfl, r4, by rw [dpa_len r5]; exact u3, kk _ _ H01 (.da .none) _ (r8 (ys' ++ [v]) (dpa_app r5 (dpa_one (dp_mono R1.sub _ _ hd))) (isTs_app q6 (isTs_one u2))) S1 .non u4⟩
/-- jar[k].pop() -/
def qJpop (i k : Nat) : QR := fun ρ P => jPart ρ i k fun c e => ∃ ds d, e = .l ds ∧ ds.getLast? = some d ∧ flatD d = true ∧ P (.da d) (ρ.set i (.jo (c.put k (.l ds.dropLast))))
theorem pr_jpop {o : Expr} {i k : Nat} {z : Int} {j : Nat} {p1 p2 apos : Pos} (jo : JOpen X.K J) (ho : PE X o (tVar i)) (hz : z = (k : Int))
    (hbase : attributeBase (.Subscript o (.Constant (.int z) j p1) p2) "pop" X.env (eval (.Subscript o (.Constant (.int z) j p1) p2) X.env) = eval (.Subscript o (.Constant (.int z) j p1) p2) X.env := by rfl) (hline : (apos.endLine == pos.line) = true := by rfl) :
    PR J X (.Call (.Attribute (.Subscript o (.Constant (.int z) j p1) p2) "pop" apos) [] [] pos) (qJpop i k) :=
  pe_mono (pe_bm0 PySem.F.plainAttrs_list PySem.F.slot_list_pop PySem.F.type_list_pop mt_pop (pe_in ho hz) hbase hline) fun σ H Q ⟨n, H0, ρ, P, R, w, kk⟩ => by
    obtain ⟨c, e0, g1, g2, g3, ds, d, rfl, hd, hf, hp⟩ := w.of
    obtain ⟨j, xs, b, ys, q1, q2, q3, q4, q5, q6, _, q8⟩ := R.jlist jo (ds' := ds.dropLast) g1 g3 g2
    rw [List.getLast?_eq_getElem?, ← dpa_len q5] at hd
    obtain ⟨v, hv, hdv⟩ := dpa_get' q5 hd
    refine ⟨j, xs, .ref b, q1, q2, q3, .inl ⟨rfl, ys, SqL.of q4⟩, b, ys, v, rfl, rfl, q4, hv, kk v _ H0 (.da d) _ (q8 ys.dropLast (dpa_dropLast q5) ?_) (.refl _) (flat_any hdv hf) hp⟩
    rw [List.dropLast_eq_take]
    exact isTs_take _ q6
/-- jar[k][e] -/
def qJix (i k : Nat) (qe : QD) : QR := fun ρ P => jPart ρ i k fun c e => ∃ ds, e = .l ds ∧ qe ρ fun d ρ1 => ρ1[i]? = some (.jo c) ∧ ∃ z x, d = .int z ∧ atI ds z = some x ∧ flatD x = true ∧ P (.da x) ρ1
theorem pr_jix {o : Expr} {i k : Nat} {z : Int} {j : Nat} {p1 p2 : Pos} {qb : QD} (jo : JOpen X.K J) (ho : PE X o (tVar i)) (hz : z = (k : Int)) (hb : PV J X b qb) (hs : PlainIx b) : PR J X (.Subscript (.Subscript o (.Constant (.int z) j p1) p2) b pos) (qJix i k qb) :=
  pe_mono (pe_ix ix_seq (pe_in ho hz) hb hs) fun σ H Q ⟨n, H0, ρ, P, R, w, kk⟩ => by
    obtain ⟨c, e0, g1, g2, g3, ds, rfl, w⟩ := w.of
    obtain ⟨j, xs, b, ys, q1, q2, q3, q4, q5, q6, q7, _⟩ := R.jlist jo (ds' := ds) g1 g3 g2
    refine ⟨j, xs, .ref b, q1, q2, q3, n, H0, ρ, _, R, w, fun v H1 H01 d ρ1 R1 S1 hd ⟨u1, z, x, u2, u3, u4, u5⟩ => ?_⟩
    obtain ⟨j', xs', b', ys', r1, r2, r3, r4, r5, r6, _, _⟩ := R1.jlist jo (ds' := ds) u1 g3 g2
    have eb : b = b' := by
      have := (q7 H1 H01 ρ1 R1 u1 j' xs' r1 r2).symm.trans r3
      cases this
      rfl
    subst eb
    subst u2
    obtain ⟨y, y1, y2⟩ := atI_v r5 u3
    exact .inl ⟨b, ys', z, y, rfl, hd.int, SqL.of r4, y1, kk y H1 H01 (.da x) ρ1 R1 S1 (flat_any y2 u4) u5⟩
/-- jar[k][e1] = e -/
def qJput2 (i k : Nat) (qe qi : QD) : QS := fun E ρ => qe ρ fun d ρ1 => jPart ρ1 i k fun c e => ∃ ds, e = .l ds ∧ qi ρ1 fun kd ρ2 => ρ2[i]? = some (.jo c) ∧ ∃ z jj, kd = .int z ∧ ixN ds.length z = some jj ∧ isT d = true ∧ E.nx (ρ2.set i (.jo (c.put k (.l (ds.set jj d)))))
theorem psd_jput2 {i k : Nat} {qe qi : QD} {o ix : Expr} {z : Int} {j : Nat} {p0 p1 p2 : Pos} (jo : JOpen X.K J) (ho : PE X o (tVar i)) (hz' : z = (k : Int)) (hi : PD J X ix qi) (he : PD J X e qe)
    (hs : swapsWithSole [.Subscript (.Subscript o (.Constant (.int z) j p1) p0) ix p2] e pos.line X.env = pure false := by rfl) (hw : swappedStores [.Subscript (.Subscript o (.Constant (.int z) j p1) p0) ix p2] e X.env = pure none := by rfl)
    (h1 : (assignEach [.Subscript (.Subscript o (.Constant (.int z) j p1) p0) ix p2] X.env).map (·.2) = [assign (.Subscript (.Subscript o (.Constant (.int z) j p1) p0) ix p2) X.env] := by rfl)
    (hz : ∀ u, assign (.Subscript (.Subscript o (.Constant (.int z) j p1) p0) ix p2) X.env u = (do
      let ov ← holding [u] (eval (.Subscript o (.Constant (.int z) j p1) p0) X.env)
      let iv ← holding [u, ov] (eval ix X.env)
      standAt p2
      holding [u, ov, iv] (setItem ov iv u)
      release [u, ov, iv] []) := by intro _; rfl) : PSd J X (.Assign [.Subscript (.Subscript o (.Constant (.int z) j p1) p0) ix p2] e pos) (qJput2 i k qe qi) :=
  ps_mono (ps_asg he (pg_sub (pe_in ho hz') hi set_list hz) hs hw h1) fun D σ H ⟨n, H0, ρ, E, R, w, kk, _⟩ => ⟨n, H0, ρ, _, R, w, fun v H1 H01 d ρ1 R1 S1 hd w1 => by
    obtain ⟨c, e0, g1, g2, g3, ds, rfl, w2⟩ := w1.of
    obtain ⟨j, xs, b, ys, q1, q2, q3, q4, q5, q6, q7, _⟩ := R1.jlist jo (ds' := ds) g1 g3 g2
    refine ⟨j, xs, .ref b, q1, q2, q3, n, H01, ρ1, _, R1, w2, fun u H2 H02 kd ρ2 R2 S2 hk ⟨u1, zz, jj, u2, u3, u4, u5⟩ => ?_⟩
    obtain ⟨j', xs', b', ys', r1, r2, r3, r4, r5, r6, _, r8⟩ := R2.jlist jo (ds' := ds.set jj d) u1 g3 g2
    have eb : b = b' := by
      have := (q7 H2 H02 ρ2 R2 u1 j' xs' r1 r2).symm.trans r3
      cases this
      rfl
    subst eb
    subst u2
    exact ⟨b, ys', zz, jj, rfl, dp_int hk, r4, by rw [dpa_len r5]; exact u3, kk σ _ H02 _ (r8 (ys'.set jj v) (dpa_set (dp_mono R2.sub _ _ (dp_mono S2 d v hd)) jj r5) (isTs_set jj u4 r6)) (S1.trans S2) u5⟩⟩
end
end Zd

set_option Elab.async false
set_option linter.all false
set_option maxRecDepth 100000
set_option maxHeartbeats 4000000
namespace Zd
open PySem PySem.Spec PyProof.Rows L2
/-! ### the drawing thing: opened by a def, made by a def, taken by the law -/
def jarN (K : PySem.W.Frag) (good : Jc → Prop) : Jr where
  is := fun as v H => ∃ c, good c ∧ JAt K H as v c
  loc := fun h k ⟨c, g, z⟩ => ⟨c, g, z.loc h k⟩
  dom := fun ⟨_, _, z⟩ => z.dom
/-- open, at slot i -/
def jarO (K : PySem.W.Frag) (i : Nat) : Jr where
  is := fun as v H => ∃ c, JAt K H as v c
  loc := fun h k ⟨c, z⟩ => ⟨c, z.loc h k⟩
  dom := fun ⟨_, z⟩ => z.dom
  jx := some i
theorem jarO_open (K : PySem.W.Frag) (i : Nat) : JOpen K (jarO K i) := fun _ _ _ c h => ⟨c, h⟩
/-- a def of the drawing thing, walked with the thing open -/
theorem openD_ok {P : Program} {w : World} {K : PySem.W.Frag} {mg : Str → Option Value} {base : Heap} {good : Jc → Prop} {x : Str} {st : Stmt} {f : Addr} {fd : FuncData} {N : List Str} {p0 : Str} {ps : List Str} {k : Nat} {pp : PPr} {qs : QS} (F : FnP K x st f fd) (hx : mg x = some (.ref f)) (S : FnScope N (p0 :: ps) (defScope st)) (hB : Binds K fd (p0 :: ps) [])
    (hl : ∀ gs R, pp gs R → ∃ ds : List D, gs = .j :: ds.map .d ∧ ds.length = ps.length)
    (hb : ∀ (cdv : Value) (A : Around) (outer : List Env) (s : Shared) (H : Hp) (E : XK), Room k (A.deeper (envOfC x (defScope st) s.heap.objs.size f cdv)) →
      PSsd (jarO K 0) (cxOf CX0 P w K mg base N x (defScope st) f cdv A outer s H E).nox (defBody st) qs)
    (spec : ∀ (ds : List D) R, pp (.j :: ds.map .d) R → ∀ c, good c → qs ⟨fun _ => False, fun r ρ => ∃ d c', r = .da d ∧ R (.da d) ∧ good c' ∧ ρ[0]? = some (.jo c'), fun _ => False, fun _ => False⟩ (.jo c :: (ds.map .da ++ List.replicate (N.length - ds.length - 1) .un))) : CalD P w K mg base (jarN K good) (k + 1) x st (p0 :: ps) pp := by
  refine ⟨rfl, f, fd, ?_, hx, F, hB⟩
  refine FunD.ok F S (fun vs H Q E ⟨H0, as, jv, gs, _, _, _, h, R, h2, _⟩ => by
    obtain ⟨ds, rfl, hds⟩ := hl gs R h2
    rw [pair_len h, List.length_cons, List.length_cons, List.length_map, hds]) (fun cdv A outer s H vs Q E hr z => ?_)
  obtain ⟨H0, as, jv, gs, h1, h2, h3, h4, R, h5, h6⟩ := z
  obtain ⟨ds, rfl, hds⟩ := hl gs R h5
  cases h4 with
  | cons hv h4 =>
    rename_i v vs
    obtain ⟨rfl, hne⟩ := hv
    obtain ⟨c, hgood, hat⟩ := h2 hne
    have hlen := pair_len h4
    rw [List.length_map] at hlen
    refine ⟨_, (hb cdv A outer s H E hr).nox, ⟨H, H0, as, v⟩, H0, _, _, ?_, spec ds R h5 c hgood, fun _ _ _ _ _ _ z => z.elim, ?_, fun _ _ _ _ _ _ z => z.elim, fun _ _ _ _ _ _ z => z.elim⟩
    · have tail : ∀ (i : Nat) (s : Sl), (ds.map Sl.da ++ List.replicate (N.length - ds.length - 1) Sl.un)[i]? = some s → s = .un ∨ ∃ d v, s = .da d ∧ vs[i]? = some v ∧ Dq K H0 v d := fun i s e => by
        by_cases q : i < ds.length
        · rw [List.getElem?_append_left (by rw [List.length_map]; exact q), List.getElem?_map] at e
          cases z : ds[i]? with
          | none => rw [z] at e; cases e
          | some d =>
            rw [z] at e
            cases e
            obtain ⟨v, w1, w2⟩ := pair_get h4 (show (ds.map Ag.d)[i]? = some (.d d) by rw [List.getElem?_map, z]; rfl)
            exact .inr ⟨d, v, rfl, w1, w2⟩
        · rw [List.getElem?_append_right (by rw [List.length_map]; omega), List.getElem?_replicate] at e
          split at e
          · cases e; exact .inl rfl
          · cases e
      refine ⟨?_, h1, fun i s e => ?_, fun i k ds1 es hik e1 e2 => ?_, fun a o _ e => e, .refl _, fun a e _ => e, fun _ => ⟨c, hat⟩, h3, fun i c1 e => ?_⟩
      · unfold L2.start
        simp only [List.length_append, List.length_map, List.length_replicate, List.length_cons, hlen]
        omega
      · cases i with
        | zero =>
          cases e
          exact ⟨rfl, hne, hat⟩
        | succ i =>
          rw [List.getElem?_cons_succ] at e
          rcases tail i s e with rfl | ⟨d, u, rfl, w1, w2⟩
          · trivial
          · refine ⟨u, ?_, w2⟩
            have li : i < vs.length := (List.getElem?_eq_some_iff.mp w1).1
            unfold L2.start
            rw [List.map_cons, List.cons_append, List.getElem?_cons_succ, List.getElem?_append_left (by rw [List.length_map]; exact li), List.getElem?_map, w1]
            rfl
      · exfalso
        cases i with
        | zero => cases e1
        | succ i =>
          rw [List.getElem?_cons_succ] at e1
          rcases tail i _ e1 with z | ⟨_, _, z, _⟩ <;> cases z
      · cases i with
        | zero => rfl
        | succ i =>
          exfalso
          rw [List.getElem?_cons_succ] at e
          rcases tail i _ e with z | ⟨_, _, z, _⟩ <;> cases z
    · intro v' σ' H' H0' r ρ' R' S' hr' ⟨d, c', er, hR, hg', e0⟩
      subst er
      obtain ⟨_, _, at'⟩ := R'.sl 0 _ e0
      exact h6 (.da d) v' H' hR ⟨H0', R'.sub, R'.fr, R'.base, R'.fresh, fun _ => ⟨c', hg', at'⟩, hr'⟩
/-! ### a display of parts -/
/-- no list, no dict of the def's own stands at b -/
def apartO (σ : L2.St) (ρ : List Sl) (b : Addr) : Prop := (∀ (i : Nat) (es : List D), ρ[i]? = some (Sl.ow es) → σ[i]? ≠ some (some (V.ref b))) ∧ ∀ (i : Nat) (es : List (Key × D)), ρ[i]? = some (Sl.od es) → σ[i]? ≠ some (some (V.ref b))
theorem Rp.kept_apart {K : PySem.W.Frag} {J : Jr} {n : En} {σ : L2.St} {H H0 : Hp} {ρ : List Sl} {p : Addr} {o : HO} (R : Rp K J (n.keep p o) σ H H0 ρ) : apartO σ ρ p := by
  refine ⟨fun i es z t => ?_, fun i es z t => ?_⟩ <;>
  · obtain ⟨a', xs', y1, y2, y3, y4, y5⟩ := R.sl i _ z
    rw [y1] at t
    cases t
    have y5' : upd n.He p o p = none := y5
    rw [upd_same] at y5'
    cases y5'
inductive NdsN (K : PySem.W.Frag) (n : En) (σ : L2.St) (ρ : List Sl) (H H0 : Hp) : List V → List Nd → List Addr → Prop
  | nil : NdsN K n σ ρ H H0 [] [] []
  | dat {x : V} {d : D} {xs : List V} {es : List Nd} {bs : List Addr} (h : Dq K H0 x d) (ht : isT d = true) (t : NdsN K n σ ρ H H0 xs es bs) : NdsN K n σ ρ H H0 (x :: xs) (.d d :: es) bs
  | lst {b : Addr} {ys : List V} {ds : List D} {xs : List V} {es : List Nd} {bs : List Addr} (h : H b = some (.lst ys)) (hd : DqAll K H0 ys ds) (ht : isTs ds = true) (h0 : H0 b = none) (he : n.He b = none) (hs : apartO σ ρ b) (hn : b ∉ bs) (t : NdsN K n σ ρ H H0 xs es bs) : NdsN K n σ ρ H H0 (.ref b :: xs) (.l ds :: es) (b :: bs)
  | dic {b : Addr} {xs : List V} {es : List Nd} {bs : List Addr} (h : H b = some (.dK [])) (h0 : H0 b = none) (he : n.He b = none) (hs : apartO σ ρ b) (hn : b ∉ bs) (t : NdsN K n σ ρ H H0 xs es bs) : NdsN K n σ ρ H H0 (.ref b :: xs) (.m [] [] :: es) (b :: bs)
theorem NdsN.unkeep {K : PySem.W.Frag} {n : En} {σ : L2.St} {ρ : List Sl} {H H0 : Hp} {p : Addr} {o : HO} (hp : n.He p = none) : ∀ {xs : List V} {es : List Nd} {bs : List Addr}, NdsN K (n.keep p o) σ ρ H H0 xs es bs → NdsN K n σ ρ H H0 xs es bs ∧ p ∉ bs
  | _, _, _, .nil => ⟨.nil, by simp⟩
  | _, _, _, .dat h ht t => ⟨.dat h ht (NdsN.unkeep hp t).1, (NdsN.unkeep hp t).2⟩
  | _, _, _, .lst (b := b) h hd ht h0 he hs hn t => by
    have he' : upd n.He p o b = none := he
    have ne : b ≠ p := fun q => by rw [q, upd_same] at he'; cases he'
    rw [upd_ne ne] at he'
    refine ⟨.lst h hd ht h0 he' hs hn (NdsN.unkeep hp t).1, fun q => ?_⟩
    rcases List.mem_cons.mp q with q | q
    · exact ne q.symm
    · exact (NdsN.unkeep hp t).2 q
  | _, _, _, .dic (b := b) h h0 he hs hn t => by
    have he' : upd n.He p o b = none := he
    have ne : b ≠ p := fun q => by rw [q, upd_same] at he'; cases he'
    rw [upd_ne ne] at he'
    refine ⟨.dic h h0 he' hs hn (NdsN.unkeep hp t).1, fun q => ?_⟩
    rcases List.mem_cons.mp q with q | q
    · exact ne q.symm
    · exact (NdsN.unkeep hp t).2 q
theorem NdsN.at {K : PySem.W.Frag} {n : En} {σ : L2.St} {ρ : List Sl} {H H0 : Hp} {p : Addr} {o : HO} (hp : H p = none) (S : Same H0 H) : ∀ {xs : List V} {es : List Nd} {bs : List Addr}, NdsN K n σ ρ H H0 xs es bs → NdAll K (upd H p o) xs es bs ∧ p ∉ bs ∧ ∀ b ∈ bs, H0 b = none ∧ n.He b = none ∧ apartO σ ρ b
  | _, _, _, .nil => ⟨.nil, by simp, fun b h => by cases h⟩
  | _, _, _, .dat h ht t => ⟨.dat (dp_mono (S.trans (same_up hp)) _ _ h) ht (NdsN.at hp S t).1, (NdsN.at (o := o) hp S t).2⟩
  | _, _, _, .lst (b := b) h hd ht h0 he hs hn t => by
    have ne : b ≠ p := ne_of_none h hp
    refine ⟨.lst (by rw [upd_ne ne]; exact h) (dpa_mono (S.trans (same_up hp)) _ _ hd) ht hn (NdsN.at hp S t).1, fun q => ?_, fun c hc => ?_⟩
    · rcases List.mem_cons.mp q with q | q
      · exact ne q.symm
      · exact (NdsN.at (o := o) hp S t).2.1 q
    · rcases List.mem_cons.mp hc with q | q
      · rw [q]; exact ⟨h0, he, hs⟩
      · exact (NdsN.at (o := o) hp S t).2.2 c q
  | _, _, _, .dic (b := b) h h0 he hs hn t => by
    have ne : b ≠ p := ne_of_none h hp
    refine ⟨.dic (ys := []) (by rw [upd_ne ne]; exact h) rfl .nil rfl hn (NdsN.at hp S t).1, fun q => ?_, fun c hc => ?_⟩
    · rcases List.mem_cons.mp q with q | q
      · exact ne q.symm
      · exact (NdsN.at (o := o) hp S t).2.1 q
    · rcases List.mem_cons.mp hc with q | q
      · rw [q]; exact ⟨h0, he, hs⟩
      · exact (NdsN.at (o := o) hp S t).2.2 c q
abbrev QN := List Sl → (List Nd → List Sl → Prop) → Prop
def tN (K : PySem.W.Frag) (J : Jr) (m : Nat) (q : QN) : TA := fun σ H Q => ∃ (n : En) (H0 : Hp) (ρ : List Sl) (P : List Nd → List Sl → Prop), Rp K J n σ H H0 ρ ∧ q ρ P ∧
  ∀ vs H' H0' es bs ρ', Rp K J n σ H' H0' ρ' → Same H0 H0' → NdsN K n σ ρ' H' H0' vs es bs → vs.length = m → P es ρ' → Q vs H'
abbrev PN (J : Jr) (X : Cx) (es : List Expr) (m : Nat) (q : QN) : Prop := PA X es (tN X.K J m q)
def qnNil : QN := fun ρ P => P [] ρ
def qnCons (qe : QR) (qr : QN) : QN := fun ρ P => qe ρ fun r ρ1 => qr ρ1 fun es ρ2 => match r with
  | .da d => isT d = true ∧ P (.d d :: es) ρ2
  | .ow ds => isTs ds = true ∧ P (.l ds :: es) ρ2
  | _ => False
section
variable {X : Cx} {J : Jr} {e a b c : Expr} {es : List Expr} {pos : Pos} {st : Stmt} {sts : List Stmt}
theorem pn_nil : PN J X [] 0 qnNil := pa_mono pa_nil fun σ H Q ⟨n, H0, ρ, P, R, w, k⟩ => k [] H H0 [] [] ρ R (.refl _) .nil rfl w
theorem pn_cons {m : Nat} {qe : QR} {qr : QN} (he : PR J X e qe) (hr : PN J X es m qr) (hs : starEach (e :: es) X.env = (false, eval e X.env) :: starEach es X.env := by rfl) : PN J X (e :: es) (m + 1) (qnCons qe qr) :=
  pa_mono (pa_cons he hr hs) fun σ H Q ⟨n, H0, ρ, P, R, w, k⟩ => ⟨n, H0, ρ, _, R, w, fun v H1 H01 r ρ1 R1 S1 hres w1 => by
    cases r with
    | un => exact hres.elim
    | ja => exact hres.elim
    | jo c => exact hres.elim
    | od ds => exact ⟨n, H01, ρ1, _, R1, w1, fun vs H2 H02 es bs ρ2 R2 S2 hN hm hP => hP.elim⟩
    | da d => exact ⟨n, H01, ρ1, _, R1, w1, fun vs H2 H02 es bs ρ2 R2 S2 hN hm ⟨ht, hp⟩ => k (v :: vs) H2 H02 (.d d :: es) bs ρ2 R2 (S1.trans S2) (.dat (dp_mono S2 _ _ hres) ht hN) (by rw [List.length_cons, hm]) hp⟩
    | ow ds =>
      obtain ⟨a, xs, rfl, h2, h3, h4, h5, h6⟩ := hres
      refine ⟨n.keep a (.lst xs), H01, ρ1, _, R1.keep h2 h4 h5 h6 (R1.od_lst h2), w1, fun vs H2 H02 es bs ρ2 R2 S2 hN hm ⟨ht, hp⟩ => ?_⟩
      have na : a ∉ n.as := fun q => (R1.jdom a q).2 h5
      have hk := Rp.kept na R2
      have hk0 := Rp.kept0 (R1.base.free h4) R2
      obtain ⟨hN', hn⟩ := hN.unkeep h5
      have hs2 := Rp.kept_apart R2
      exact k (.ref a :: vs) H2 H02 (.l ds :: es) (a :: bs) ρ2 (R2.unkeep h5 R1.jdom) (S1.trans S2) (.lst hk (dpa_mono S2 _ _ h3) ht hk0 h5 hs2 hn hN') (by rw [List.length_cons, hm]) hp⟩
end
/-- {} as a part -/
def qnDic (qr : QN) : QN := fun ρ P => qr ρ fun es ρ2 => P (.m [] [] :: es) ρ2
theorem pn_dic {X : Cx} {J : Jr} {es : List Expr} {p : Pos} {m : Nat} {qr : QN} (hr : PN J X es m qr) (hs : starEach (.Dict [] [] p :: es) X.env = (false, eval (.Dict [] [] p) X.env) :: starEach es X.env := by rfl) : PN J X (.Dict [] [] p :: es) (m + 1) (qnDic qr) :=
  pa_mono (pa_cons pe_dnewK hr hs) fun σ H Q ⟨n, H0, ρ, P, R, w, k⟩ a hp => by
    have na : a ∉ n.as := fun q => R.hej (R.jdom a q).2 hp
    have hno := R.new hp
    refine ⟨n.keep a (.dK []), H0, ρ, _, (R.laid hp).keep upd_same (R.h0 hp) (R.he0 hp) hno (R.od_new hp), w, fun vs H2 H02 es bs ρ2 R2 S2 hN hm hP => ?_⟩
    have hk := Rp.kept na R2
    have hk0 := Rp.kept0 (R.base.free (R.h0 hp)) R2
    obtain ⟨hN', hn⟩ := hN.unkeep (R.he0 hp)
    have hs2 := Rp.kept_apart R2
    exact k (.ref a :: vs) H2 H02 (.m [] [] :: es) (a :: bs) ρ2 (R2.unkeep (R.he0 hp) R.jdom) S2 (.dic hk hk0 (R.he0 hp) hs2 hn hN') (by rw [List.length_cons, hm]) hP
/-! ### the maker -/
def NewJ (K : PySem.W.Frag) (n : En) (H' : Hp) (as : List Addr) (v : V) (c : Jc) : Prop :=
  ∃ H0', Same H0' H' ∧ (∀ a o, n.He a = some o → H' a = some o) ∧ Same n.H0 H0' ∧ (∀ a, n.H0 a = none → n.He a ≠ none → H0' a = none) ∧ JAt K H' as v c ∧ ∀ a ∈ as, H0' a = none ∧ n.He a = none
abbrev QM := (Jc → Prop) → List Sl → Prop
abbrev PPm := List Ag → (Jc → Prop) → Prop
def tM (K : PySem.W.Frag) (J : Jr) (q : QM) : TS := fun D σ H => ∃ (n : En) (H0 : Hp) (ρ : List Sl) (R : Jc → Prop), Rp K J n σ H H0 ρ ∧ n.as = [] ∧ q R ρ ∧ ∀ c v H' as, R c → NewJ K n H' as v c → D.rt v H'
abbrev EndM (P : List Sl → Prop) : EndD := ⟨P, fun _ _ => False, fun _ => False, fun _ => False⟩
def qmSeq (q : QS) (r : QM) : QM := fun R ρ => q (EndM (r R)) ρ
def qmRet (q : QN) : QM := fun R ρ => q ρ fun es _ => R ⟨none, es⟩
def qmDisp (i : Nat) (q : QN) (r : QM) : QM := fun R ρ => q ρ fun es ρ' => r R (ρ'.set i (.jo ⟨none, es⟩))
def qoRet (i : Nat) : QM := fun R ρ => ∃ c, ρ[i]? = some (.jo c) ∧ R c
def tMo (K : PySem.W.Frag) (i : Nat) (q : QM) : TS := fun D σ H => ∃ (n n0 : En) (H0 : Hp) (ρ : List Sl) (R : Jc → Prop), Rp K (jarO K i) n σ H H0 ρ ∧ n.as ≠ [] ∧ n.H0 = n0.H0 ∧ (∀ a ∈ n.as, n0.He a = none) ∧ (∀ a o, n0.He a = some o → n.He a = some o) ∧ q R ρ ∧ ∀ c v H', R c → NewJ K n0 H' n.as v c → D.rt v H'
section
variable {X : Cx} {J : Jr} {e a b c : Expr} {es : List Expr} {pos : Pos} {st : Stmt} {sts : List Stmt}
theorem mk_seq {q : QS} {r : QM} (h : PSd J X st q) (h2 : PSs X sts (tM X.K J r)) : PSs X (st :: sts) (tM X.K J (qmSeq q r)) :=
  pss_mono (pss_cons h h2) fun D σ H ⟨n, H0, ρ, R, Rr, ha, w, k⟩ => ⟨n, H0, ρ, _, Rr, w, fun σ' H' H0' ρ' R' _ z => ⟨n, H0', ρ', R, R', ha, z, k⟩, fun _ _ _ _ _ _ _ _ _ z => z.elim, fun _ _ _ _ _ _ z => z.elim, fun _ _ _ _ _ _ z => z.elim⟩
theorem new_at {K : PySem.W.Frag} {n : En} {σ : L2.St} {H H0 : Hp} {ρ : List Sl} {vs : List V} {es : List Nd} {bs : List Addr} {p : Addr} (R : Rp K J n σ H H0 ρ) (ha : n.as = []) (hN : NdsN K n σ ρ H H0 vs es bs) (hp : H p = none) : NewJ K n (upd H p (.lst vs)) (p :: bs) (.ref p) ⟨none, es⟩ := by
  obtain ⟨h1, h2, h3⟩ := hN.at (o := .lst vs) hp R.sub
  refine ⟨H0, R.sub.trans (same_up hp), fun a o z => ?_, R.base, R.fresh, ⟨p, vs, bs, rfl, rfl, by rw [upd_same]; rfl, h1, h2, fun ks hks => by cases hks⟩, fun a ha' => ?_⟩
  · have z' := R.fr a o (by rw [ha]; simp) z
    rw [upd_ne (ne_of_none z' hp)]
    exact z'
  · rcases List.mem_cons.mp ha' with q | q
    · rw [q]; exact ⟨R.h0 hp, R.he0 hp⟩
    · exact ⟨(h3 a q).1, (h3 a q).2.1⟩
theorem mk_ret {m : Nat} {q : QN} {p2 : Pos} (h : PN J X es m q) (hm : decide (m ≤ 1000) = true) : PSs X [.Return (some (.List es p2)) pos] (tM X.K J (qmRet q)) :=
  pss_mono (pss_one (ps_ret (pe_lst h))) fun D σ H ⟨n, H0, ρ, R, Rr, ha, w, k⟩ => ⟨n, H0, ρ, _, Rr, w, fun vs H1 H01 es bs ρ1 R1 S1 hN hl w1 => by
    have hm := of_decide_eq_true hm
    exact ⟨Nat.le_of_lt (small1000 (by omega)), fun p hp => k _ _ _ _ w1 (new_at R1 ha hN hp)⟩⟩
theorem mk_disp {m i : Nat} {q : QN} {r : QM} {x : Str} {p1 p2 : Pos} (hN : X.N.Nodup) (hi : X.N[i]? = some x) (hx : Loc X.env.scope x) (h : PN J X es m q) (hm : decide (m ≤ 1000) = true) (h2 : PSs X sts (tMo X.K i r))
    (hs : swapsWith (.List es p2) (some (.Name x p1)) pos.line X.env = pure false := by rfl)
    (hf : X.fn x = true ∨ X.env.scope.names.lookup x = some .local := by first | exact .inl rfl | exact .inr rfl | assumption) : PSs X (.Assign [.Name x p1] (.List es p2) pos :: sts) (tM X.K J (qmDisp i q r)) :=
  pss_mono (pss_cons (ps_set hN hi hx (pe_lst h) hs hf) h2) fun D σ H ⟨n, H0, ρ, R, Rr, ha, w, k⟩ => ⟨n, H0, ρ, _, Rr, w, fun vs H1 H01 es bs ρ1 R1 S1 hN hl w1 => by
    have hm := of_decide_eq_true hm
    refine ⟨Nat.le_of_lt (small1000 (by omega)), fun p hp => ?_⟩
    obtain ⟨H0', g1, g2, g3, g4, g5, g6⟩ := new_at R1 ha hN hp
    obtain ⟨n1, n2, n3⟩ := hN.at (o := .lst vs) hp R1.sub
    have out : ∀ a, n.He a ≠ none → a ∉ p :: bs := fun a h q => h (g6 a q).2
    have h0n : ∀ a ∈ p :: bs, H01 a = none := fun a q => by
      rcases List.mem_cons.mp q with q | q
      · rw [q]; exact R1.h0 hp
      · exact (n3 a q).1
    have old : ∀ {m : Nat} {es1 : List PyData} {y : Sl}, (ρ1.set i (.jo ⟨none, es⟩))[m]? = some (.ow es1) → i ≠ m ∧ ρ1[m]? = some (.ow es1) := fun {m es1 y} z => by
      rw [get_set] at z
      by_cases q : i = m
      · rw [if_pos q] at z
        split at z <;> cases z
      · rw [if_neg q] at z
        exact ⟨q, z⟩
    refine ⟨⟨fun a => if a ∈ p :: bs then upd H1 p (.lst vs) a else n.He a, n.H0, p :: bs, .ref p⟩, n, H01, _, R, ?_, by simp, rfl, fun a q => (g6 a q).2, fun a o z => ?_, w1, fun c v H' hc hj => k c v H' _ hc hj⟩
    · refine ⟨by rw [List.length_set, List.length_set]; exact R1.len, R1.sub.trans (same_up hp), fun j s z => ?_, fun a b ds es hab z1 z2 => ?_, fun a o hna z => ?_, R1.base, fun a z1 z2 => ?_, fun _ => ⟨_, g5⟩, fun a q => ?_, fun j c z => ?_⟩
      · rw [get_set] at z
        by_cases q : i = j
        · rw [if_pos q] at z
          split at z
          · cases z
            subst q
            exact ⟨by rw [get_set, if_pos rfl, if_pos (by rw [R1.len]; assumption)], by simp, g5⟩
          · cases z
        · rw [if_neg q] at z
          have y := R1.sl j s z
          have g : (σ.set i (some (V.ref p)))[j]? = σ[j]? := by rw [get_set, if_neg q]
          cases s with
          | un => trivial
          | da d => obtain ⟨u, y1, y2⟩ := y; exact ⟨u, by rw [g]; exact y1, y2⟩
          | ow ds =>
            obtain ⟨a, xs, y1, y2, y3, y4, y5⟩ := y
            have np : a ≠ p := ne_of_none y2 hp
            have nb : a ∉ p :: bs := fun t => by
              rcases List.mem_cons.mp t with t | t
              · exact np t
              · exact (n3 a t).2.2.1 j ds z y1
            exact ⟨a, xs, by rw [g]; exact y1, by rw [upd_ne np]; exact y2, y3, y4, by show (if a ∈ p :: bs then upd H1 p (.lst vs) a else n.He a) = none; rw [if_neg nb]; exact y5⟩
          | od ds =>
            obtain ⟨a, xs, y1, y2, y3, y4, y5⟩ := y
            have np : a ≠ p := ne_of_none y2 hp
            have nb : a ∉ p :: bs := fun t => by
              rcases List.mem_cons.mp t with t | t
              · exact np t
              · exact (n3 a t).2.2.2 j ds z y1
            exact ⟨a, xs, by rw [g]; exact y1, by rw [upd_ne np]; exact y2, y3, y4, by show (if a ∈ p :: bs then upd H1 p (.lst vs) a else n.He a) = none; rw [if_neg nb]; exact y5⟩
          | ja => exact absurd ha y.2
          | jo c => exact absurd ha y.2.1
      · obtain ⟨na, za⟩ := old (y := .un) z1
        obtain ⟨nb, zb⟩ := old (y := .un) z2
        rw [get_set, get_set, if_neg na, if_neg nb]
        exact R1.sep a b ds es hab za zb
      · have z' : (if a ∈ p :: bs then upd H1 p (.lst vs) a else n.He a) = some o := z
        rw [if_neg hna] at z'
        have y := R1.fr a o (by rw [ha]; simp) z'
        rw [upd_ne (ne_of_none y hp)]
        exact y
      · by_cases q : a ∈ p :: bs
        · exact h0n a q
        · have z' : (if a ∈ p :: bs then upd H1 p (.lst vs) a else n.He a) ≠ none := z2
          rw [if_neg q] at z'
          exact R1.fresh a z1 z'
      · refine ⟨R1.base.free (h0n a q), ?_⟩
        show (if a ∈ p :: bs then upd H1 p (.lst vs) a else n.He a) ≠ none
        rw [if_pos q]
        exact g5.dom a q
      · rw [get_set] at z
        by_cases q : i = j
        · rw [q]; rfl
        · rw [if_neg q] at z
          exact absurd ha (R1.sl j _ z).2.1
    · show (if a ∈ p :: bs then upd H1 p (.lst vs) a else n.He a) = some o
      rw [if_neg (out a (by rw [z]; intro t; cases t))]
      exact z⟩
theorem mo_seq {i : Nat} {q : QS} {r : QM} (h : PSd (jarO X.K i) X st q) (h2 : PSs X sts (tMo X.K i r)) : PSs X (st :: sts) (tMo X.K i (qmSeq q r)) :=
  pss_mono (pss_cons h h2) fun D σ H ⟨n, n0, H0, ρ, R, Rr, ha, e1, e2, e3, w, k⟩ => ⟨n, H0, ρ, _, Rr, w, fun σ' H' H0' ρ' R' _ z => ⟨n, n0, H0', ρ', R, R', ha, e1, e2, e3, z, k⟩, fun _ _ _ _ _ _ _ _ _ z => z.elim, fun _ _ _ _ _ _ z => z.elim, fun _ _ _ _ _ _ z => z.elim⟩
theorem mo_ret {i : Nat} (h : PE X e (tVar i)) : PSs X [.Return (some e) pos] (tMo X.K i (qoRet i)) :=
  pss_mono (pss_one (ps_ret h)) fun D σ H ⟨n, n0, H0, ρ, R, Rr, ha, e1, e2, e3, ⟨c, w, hc⟩, k⟩ => by
    obtain ⟨g1, g2, g3⟩ := Rr.sl i _ w
    refine ⟨n.jv, g1, k c _ _ hc ⟨H0, Rr.sub, fun a o z => ?_, by rw [← e1]; exact Rr.base, fun a z1 z2 => ?_, g3, fun a q => ⟨Rr.jh0 q, e2 a q⟩⟩⟩
    · exact Rr.fr a o (fun q => by rw [e2 a q] at z; cases z) (e3 a o z)
    · refine Rr.fresh a (by rw [e1]; exact z1) ?_
      cases z : n0.He a with
      | none => exact absurd z z2
      | some o => rw [e3 a o z]; intro t; cases t
/-- a maker's promise -/
def spM (K : PySem.W.Frag) (pp : PPm) : Sp := fun vs H Q _ => ∃ (H0 : Hp) (jv : V) (gs : List Ag), Same H0 H ∧ Paired (AgOk K H0 [] jv) vs gs ∧ ∃ R : Jc → Prop, pp gs R ∧ ∀ c v H' as, R c → NewJ K ⟨H, H0, [], jv⟩ H' as v c → Q v H'
end
structure CalM (P : Program) (w : World) (K : PySem.W.Frag) (mg : Str → Option Value) (base : Heap) (k : Nat) (x : Str) (st : Stmt) (ps : List Str) (pp : PPm) : Prop where
  ex : ∃ f fd, FnOk P w K mg base CX0 k f fd ps (spM K pp) ∧ mg x = some (.ref f) ∧ FnP K x st f fd ∧ Binds K fd ps []
theorem start_rp {K : PySem.W.Frag} {J : Jr} {H H0 : Hp} {N ps : List Str} {vs : List V} {gs : List Ag} {jv : V} (h1 : Same H0 H) (h4 : Paired (AgOk K H0 [] jv) vs gs) (hl : gs.length ≤ N.length) : Rp K J ⟨H, H0, [], jv⟩ (L2.start N vs) H H0 (startD N.length gs) := by
  have hlen := pair_len h4
  have look : ∀ (i : Nat) (s : Sl), (startD N.length gs)[i]? = some s → s = Sl.un ∨ ∃ d v, s = Sl.da d ∧ vs[i]? = some v ∧ Dq K H0 v d := fun i s e => by
    unfold startD at e
    by_cases q : i < gs.length
    · rw [List.getElem?_append_left (by rw [List.length_map]; exact q), List.getElem?_map] at e
      cases z : gs[i]? with
      | none => rw [z] at e; cases e
      | some g =>
        rw [z] at e
        cases e
        obtain ⟨v, w1, w2⟩ := pair_get h4 z
        cases g with
        | d x => exact .inr ⟨x, v, rfl, w1, w2⟩
        | j => exact absurd rfl w2.2
    · rw [List.getElem?_append_right (by rw [List.length_map]; omega), List.getElem?_replicate] at e
      split at e
      · cases e; exact .inl rfl
      · cases e
  refine ⟨?_, h1, fun i s e => ?_, fun i j ds es _ e _ => ?_, fun a o _ e => e, .refl _, fun a e _ => e, fun z => absurd rfl z, fun a ha => by simp at ha, fun i c e => ?_⟩
  · unfold L2.start startD
    rw [List.length_append, List.length_append, List.length_map, List.length_map, List.length_replicate, List.length_replicate, hlen]
  · rcases look i s e with rfl | ⟨d, v, rfl, w1, w2⟩
    · trivial
    · refine ⟨v, ?_, w2⟩
      have li : i < vs.length := (List.getElem?_eq_some_iff.mp w1).1
      unfold L2.start
      rw [List.getElem?_append_left (by rw [List.length_map]; exact li), List.getElem?_map, w1]
      rfl
  · rcases look i _ e with z | ⟨_, _, z, _⟩ <;> cases z
  · rcases look i _ e with z | ⟨_, _, z, _⟩ <;> cases z
theorem makeD_ok {P : Program} {w : World} {K : PySem.W.Frag} {mg : Str → Option Value} {base : Heap} {J : Jr} {x : Str} {st : Stmt} {f : Addr} {fd : FuncData} {N ps : List Str} {k : Nat} {pp : PPm} {qs : QM} (F : FnP K x st f fd) (hx : mg x = some (.ref f)) (S : FnScope N ps (defScope st)) (hB : Binds K fd ps [])
    (hl : ∀ gs R, pp gs R → gs.length = ps.length) (hN : decide (ps.length ≤ N.length) = true) (hb : ∀ (cdv : Value) (A : Around) (outer : List Env) (s : Shared) (H : Hp) (E : XK), Room k (A.deeper (envOfC x (defScope st) s.heap.objs.size f cdv)) →
      PSs (cxOf CX0 P w K mg base N x (defScope st) f cdv A outer s H E).nox (defBody st) (tM K J qs))
    (spec : ∀ gs R, pp gs R → qs R (startD N.length gs)) : CalM P w K mg base (k + 1) x st ps pp := by
  refine ⟨f, fd, ?_, hx, F, hB⟩
  refine FunD.ok F S (fun vs H Q E ⟨H0, jv, gs, _, h, R, h2, _⟩ => by rw [pair_len h]; exact hl gs R h2) (fun cdv A outer s H vs Q E hr z => ?_)
  obtain ⟨H0, jv, gs, h1, h4, R, h5, h6⟩ := z
  refine ⟨_, (hb cdv A outer s H E hr).nox, ⟨H, H0, [], jv⟩, H0, _, R, start_rp (ps := ps) h1 h4 (by rw [hl gs R h5]; exact of_decide_eq_true hN), rfl, spec gs R h5, fun c v H' as hc hj => h6 c v H' as hc hj⟩
/-! ### the law -/
abbrev EndL : EndD := ⟨fun _ => False, fun r _ => r = .da (.bool true), fun _ => False, fun _ => False⟩
def tLw (K : PySem.W.Frag) (J : Jr) (q : QS) : TS := fun D σ H => ∃ (n : En) (H0 : Hp) (ρ : List Sl), Rp K J n σ H H0 ρ ∧ n.as = [] ∧ q EndL ρ ∧ ∀ H', D.rt (.bl true) H'
/-- jar = maker(..) -/
def qMake (i : Nat) (good : Jc → Prop) (pp : PPm) (qa : QA) (q : QS) : QS := fun E ρ => qa ρ fun as ρ' => ∃ gs, resv ρ' as = some gs ∧ pp gs fun c => good c ∧ q E ((frzs ρ' as).set i .ja)
section
variable {X : Cx} {J : Jr} {e a b c : Expr} {es : List Expr} {pos : Pos} {st : Stmt} {sts : List Stmt}
theorem law_seq {q r : QS} (h : PSd J X st q) (h2 : PSs X sts (tLw X.K J r)) : PSs X (st :: sts) (tLw X.K J (qSeq q r)) :=
  pss_mono (pss_cons h h2) fun D σ H ⟨n, H0, ρ, R, ha, w, k⟩ => ⟨n, H0, ρ, _, R, w, fun σ' H' H0' ρ' R' _ z => ⟨n, H0', ρ', R', ha, z, k⟩, fun v σ' H' H0' r ρ' R' _ hr (z : r = _) => by
    subst z
    have e := dp_bool hr
    subst e
    exact k H', fun _ _ _ _ _ _ z => z.elim, fun _ _ _ _ _ _ z => z.elim⟩
theorem law_make {good : Jc → Prop} {i k k' : Nat} {pp : PPm} {qa : QA} {q : QS} {x y : Str} {st' : Stmt} {ps : List Str} {p p1 : Pos} (C : CalM X.prog X.w X.K X.mg X.base k x st' ps pp) (hr : Room k' X.A) (hk : k ≤ k') (hg : Gl X x)
    (hN : X.N.Nodup) (hi : X.N[i]? = some y) (hy : Loc X.env.scope y) (ha : PAa J X (e :: es) qa) (h2 : PSsd (jarN X.K good) X sts q)
    (hdb : (x == ("__debug__" : Str)) = false := by decide) (he : starEach (e :: es) X.env = (false, eval e X.env) :: starEach es X.env := by rfl) (hpl : (backTo pos (starEach es X.env)).any (·.1) = false := by rfl)
    {pos2 : Pos} (hs : swapsWith (.Call (.Name x p) (e :: es) [] pos) (some (.Name y p1)) pos2.line X.env = pure false := by rfl)
    (hf : X.fn y = true ∨ X.env.scope.names.lookup y = some .local := by first | exact .inl rfl | exact .inr rfl | assumption) :
    PSs X (.Assign [.Name y p1] (.Call (.Name x p) (e :: es) [] pos) pos2 :: sts) (tLw X.K J (qMake i good pp qa q)) := by
  obtain ⟨f, fd, F, hm, G, hb⟩ := C.ex
  refine pss_mono (pss_cons (ps_set hN hi hy (pe_call F (hr.mono hk) hg hm G.kp hb .nil pass0 ha hdb he hpl) hs hf) h2) fun D σ H ⟨n, H0, ρ, R, has, w, kk⟩ => ?_
  refine ⟨n, H0, ρ, _, R, w, fun vs H1 H01 as ρ1 R1 S1 hp ⟨gs, hg2, w1⟩ => ?_⟩
  obtain ⟨H0f, Sf, Rf, hf2⟩ := Rp.args (.refl H01) as ρ1 H01 vs gs R1 hp hg2
  rw [List.append_nil]
  rw [has] at hf2
  refine ⟨H0f, n.jv, gs, Rf.sub, hf2, _, w1, fun c v H' as' ⟨hgood, hq⟩ ⟨H0', j1, j2, j3, j4, j5, j6⟩ => ?_⟩
  have j2 : ∀ a o, H1 a = some o → H' a = some o := j2
  have j3 : Same H0f H0' := j3
  have j4 : ∀ a, H0f a = none → H1 a ≠ none → H0' a = none := j4
  have j6 : ∀ a ∈ as', H0' a = none ∧ H1 a = none := j6
  have ne : as' ≠ [] := by
    obtain ⟨j, xs, bs, e1, _⟩ := j5
    rw [e1]
    simp
  have old : ∀ {m : Nat} {es1 : List PyData} {y : Sl}, ((frzs ρ1 as).set i .ja)[m]? = some (.ow es1) → i ≠ m ∧ (frzs ρ1 as)[m]? = some (.ow es1) := fun {m es1 y} z => by
    rw [get_set] at z
    by_cases q : i = m
    · rw [if_pos q] at z
      split at z <;> cases z
    · rw [if_neg q] at z
      exact ⟨q, z⟩
  refine ⟨⟨fun a => if a ∈ as' then H' a else n.He a, n.H0, as', v⟩, H0', _, EndL, ?_, hq, fun _ _ _ _ _ _ z => z.elim, fun v' σ' H2 H02 r ρ' R' _ hr' (z : r = _) => ?_, fun _ _ _ _ _ _ z => z.elim, fun _ _ _ _ _ _ z => z.elim⟩
  · refine ⟨by rw [List.length_set, List.length_set]; exact Rf.len, j1, fun m s z => ?_, fun a b ds es hab z1 z2 => ?_, fun a o hna z => ?_, Rf.base.trans j3, fun a z1 z2 => ?_, fun _ => ⟨c, hgood, j5⟩, fun a q => ?_, fun j c z => ?_⟩
    · rw [get_set] at z
      by_cases q : i = m
      · rw [if_pos q] at z
        split at z
        · cases z
          subst q
          exact ⟨by rw [get_set, if_pos rfl, if_pos (by rw [Rf.len]; assumption)], ne⟩
        · cases z
      · rw [if_neg q] at z
        have y := Rf.sl m s z
        have g : (σ.set i (some v))[m]? = σ[m]? := by rw [get_set, if_neg q]
        cases s with
        | un => trivial
        | da d => obtain ⟨u, y1, y2⟩ := y; exact ⟨u, by rw [g]; exact y1, dp_mono j3 _ _ y2⟩
        | ow ds =>
          obtain ⟨a, xs, y1, y2, y3, y4, y5⟩ := y
          have nb : a ∉ as' := fun t => by rw [(j6 a t).2] at y2; cases y2
          exact ⟨a, xs, by rw [g]; exact y1, j2 a _ y2, dpa_mono j3 _ _ y3, j4 a y4 (by rw [y2]; intro t; cases t), by show (if a ∈ as' then H' a else n.He a) = none; rw [if_neg nb]; exact y5⟩
        | od ds =>
          obtain ⟨a, xs, y1, y2, y3, y4, y5⟩ := y
          have nb : a ∉ as' := fun t => by rw [(j6 a t).2] at y2; cases y2
          exact ⟨a, xs, by rw [g]; exact y1, j2 a _ y2, dpa_mono j3 _ _ y3, j4 a y4 (by rw [y2]; intro t; cases t), by show (if a ∈ as' then H' a else n.He a) = none; rw [if_neg nb]; exact y5⟩
        | ja => exact absurd has y.2
        | jo c => exact absurd has y.2.1
    · obtain ⟨na, za⟩ := old (y := .un) z1
      obtain ⟨nb, zb⟩ := old (y := .un) z2
      rw [get_set, get_set, if_neg na, if_neg nb]
      exact Rf.sep a b ds es hab za zb
    · have z' : (if a ∈ as' then H' a else n.He a) = some o := z
      rw [if_neg hna] at z'
      exact j2 a o (Rf.fr a o (by rw [has]; simp) z')
    · by_cases q : a ∈ as'
      · exact (j6 a q).1
      · have z' : (if a ∈ as' then H' a else n.He a) ≠ none := z2
        rw [if_neg q] at z'
        exact j4 a (Rf.fresh a z1 z') (Rf.hej z')
    · refine ⟨(Rf.base.trans j3).free (j6 a q).1, ?_⟩
      show (if a ∈ as' then H' a else n.He a) ≠ none
      rw [if_pos q]
      exact j5.dom a q
    · rw [get_set] at z
      by_cases q : i = j
      · rw [if_pos q] at z
        split at z <;> cases z
      · rw [if_neg q] at z
        exact absurd has (Rf.sl j _ z).2.1
  · subst z
    have e := dp_bool hr'
    subst e
    exact kk H2
end
/-- what the law's caller gives -/
def spLaw (K : PySem.W.Frag) : Sp := fun vs H Q _ => ∃ (a : Addr) (ns : List Int), vs = [.ref a] ∧ SqL K H a (ns.map V.int) ∧ ns.length ≤ 63 ∧ ∀ H', Q (.bl true) H'
theorem dqa_ints {K : PySem.W.Frag} {H : Hp} : ∀ (bs : List Int), DqAll K H (bs.map V.int) (bs.map PyData.int)
  | [] => .nil
  | b :: bs => .cons (.int b) (dqa_ints bs)
theorem lawD_ok {P : Program} {w : World} {K : PySem.W.Frag} {mg : Str → Option Value} {base : Heap} {J : Jr} {x p0 : Str} {st : Stmt} {f : Addr} {fd : FuncData} {N : List Str} {k : Nat} {qs : QS} (F : FnP K x st f fd) (S : FnScope N [p0] (defScope st)) (hN : decide (1 ≤ N.length) = true)
    (hb : ∀ (cdv : Value) (A : Around) (outer : List Env) (s : Shared) (H : Hp) (E : XK), Room k (A.deeper (envOfC x (defScope st) s.heap.objs.size f cdv)) →
      PSs (cxOf CX0 P w K mg base N x (defScope st) f cdv A outer s H E).nox (defBody st) (tLw K J qs))
    (spec : ∀ ns : List Int, ns.length ≤ 63 → qs EndL (startD N.length [.d (.list (ns.map .int))])) : FnOk P w K mg base CX0 (k + 1) f fd [p0] (spLaw K) := by
  refine FunD.ok F S (fun vs H Q E ⟨a, ns, h, _⟩ => by rw [h]; rfl) (fun cdv A outer s H vs Q E hr ⟨a, ns, hv, hS, hl, k⟩ => ?_)
  subst hv
  exact ⟨_, (hb cdv A outer s H E hr).nox, ⟨H, H, [], .non⟩, H, _, start_rp (ps := [p0]) (.refl _) (.cons (show AgOk K H [] V.non (.ref a) (.d (.list (ns.map .int))) from Dq.lst hS (dqa_ints ns)) .nil) (of_decide_eq_true hN), rfl, spec ns hl, k⟩
end Zd

set_option Elab.async false
set_option linter.all false
set_option maxRecDepth 100000
set_option maxHeartbeats 4000000
namespace Zd
open PySem PySem.Spec PyProof.Rows L2
/-! ### data and tables of the module -/
mutual
/-- a value of the module that is the datum -/
def datB (K : PySem.W.Frag) : PyData → Value → Bool
  | .none, .none => true
  | .bool b, .bool c => decide (b = c)
  | .int i, .int j _ => decide (i = j)
  | .str x, .str y _ => decide (x = y)
  | .tuple ds, .ref p => (match K.lookup p with
    | some ⟨.type c, _, .seq its _, _⟩ => decide (c = "tuple") && (decide (its.size ≤ 1000) && datsB K ds its.toList)
    | _ => false)
  | _, _ => false
def datsB (K : PySem.W.Frag) : List PyData → List Value → Bool
  | [], [] => true
  | d :: ds, u :: us => datB K d u && datsB K ds us
  | _, _ => false
end
mutual
theorem datB_ok {K : PySem.W.Frag} : ∀ (d : PyData) (u : Value), datB K d u = true → ∃ v, RelV v u ∧ ∀ H, Dq K H v d
  | .none, .none, _ => ⟨.non, rfl, fun _ => .non⟩
  | .bool b, .bool c, h => ⟨.bl b, by rw [show b = c from of_decide_eq_true h]; rfl, fun _ => .bl _⟩
  | .int i, .int j t, h => ⟨.int i, by rw [show i = j from of_decide_eq_true h]; exact ⟨t, rfl⟩, fun _ => .int _⟩
  | .str x, .str y t, h => ⟨.str x, by rw [show x = y from of_decide_eq_true h]; exact ⟨t, rfl⟩, fun _ => .str _⟩
  | .tuple ds, .ref p, h => by
    unfold datB at h
    split at h
    · rename_i c dt its n sl e
      obtain ⟨h1, h2⟩ := Bool.and_eq_true_iff.mp h
      obtain ⟨h3, h4⟩ := Bool.and_eq_true_iff.mp h2
      obtain ⟨vs, hv, hd⟩ := datsB_ok ds its.toList h4
      have ec : c = "tuple" := of_decide_eq_true h1
      subst ec
      exact ⟨.ref p, rfl, fun H => .tup (.inr ⟨_, its, n, e, rfl, rfl, Nat.le_trans (of_decide_eq_true h3) (by decide), hv⟩) (hd H)⟩
    · cases h
theorem datsB_ok {K : PySem.W.Frag} : ∀ (ds : List PyData) (us : List Value), datsB K ds us = true → ∃ vs, Vals vs us ∧ ∀ H, DqAll K H vs ds
  | [], [], _ => ⟨[], .nil, fun _ => .nil⟩
  | d :: ds, u :: us, h => by
    have h' : (datB K d u && datsB K ds us) = true := h
    obtain ⟨h1, h2⟩ := Bool.and_eq_true_iff.mp h'
    obtain ⟨v, r, q⟩ := datB_ok d u h1
    obtain ⟨vs, rs, qs⟩ := datsB_ok ds us h2
    exact ⟨v :: vs, .cons r rs, fun H => .cons (q H) (qs H)⟩
end
abbrev Tb := List (Str × PyData)
def entB (K : PySem.W.Frag) : Tb → List DictEntry → Bool
  | [], [] => true
  | (k, d) :: t, e :: es => (match e.key with
    | .str x _ => decide (x = k)
    | _ => false) && (datB K d e.val && entB K t es)
  | _, _ => false
def tabB (K : PySem.W.Frag) (a : Addr) (t : Tb) : Bool := match K.lookup a with
  | some ⟨_, _, .dict es _, _⟩ => entB K t es.toList
  | _ => false
def Tb.at (t : Tb) (z : Str) : Option PyData := match t with
  | [] => none
  | (k, d) :: r => if z = k then some d else Tb.at r z
/-- a table of the module -/
def TabOk (K : PySem.W.Frag) (w : World) (mg : Str → Option Value) (x : Str) (t : Tb) : Prop := ∃ a es n, mg x = some (.ref a) ∧ KDict K w a es n ∧
  ∀ z, (match t.at z with
    | some d => ∃ u v, PySem.W.nsIn K a z = some (some u) ∧ RelV v u ∧ ∀ H, Dq K H v d
    | none => PySem.W.nsIn K a z = some none)
/-- a datum of the module -/
def DatOk (K : PySem.W.Frag) (mg : Str → Option Value) (x : Str) (d : PyData) : Prop := ∃ u v, mg x = some u ∧ RelV v u ∧ ∀ H, Dq K H v d
theorem entB_at {K : PySem.W.Frag} (z : Str) : ∀ (t : Tb) (es : List DictEntry), entB K t es = true → es.any (·.refKey) = false ∧ (match t.at z with
    | some d => ∃ e v, es.find? (·.key.isStr z) = some e ∧ RelV v e.val ∧ ∀ H, Dq K H v d
    | none => es.find? (·.key.isStr z) = none)
  | [], [], _ => ⟨rfl, rfl⟩
  | (k, d) :: t, e :: es, h => by
    have h' : ((match e.key with
      | .str x _ => decide (x = k)
      | _ => false) && (datB K d e.val && entB K t es)) = true := h
    obtain ⟨h1, h2⟩ := Bool.and_eq_true_iff.mp h'
    obtain ⟨h3, h4⟩ := Bool.and_eq_true_iff.mp h2
    obtain ⟨i1, i2⟩ := entB_at z t es h4
    split at h1
    · rename_i x tk ek
      have exk : x = k := of_decide_eq_true h1
      subst exk
      refine ⟨?_, ?_⟩
      · rw [List.any_cons, i1, Bool.or_false]
        unfold DictEntry.refKey
        rw [ek]
      · have hz : e.key.isStr z = decide (z = x) := by
          rw [ek]
          show (x == z) = decide (z = x)
          by_cases q : z = x
          · subst q; simp
          · rw [decide_eq_false q]
            exact beq_eq_false_iff_ne.mpr (fun t => q t.symm)
        unfold Tb.at
        rw [List.find?_cons, hz]
        by_cases q : z = x
        · rw [if_pos q, decide_eq_true q]
          obtain ⟨v, r, w⟩ := datB_ok d e.val h3
          exact ⟨e, v, rfl, r, w⟩
        · rw [if_neg q, decide_eq_false q]
          exact i2
    · cases h1
theorem tabB_ok {K : PySem.W.Frag} {w : World} {mg : Str → Option Value} {x : Str} {a : Addr} {t : Tb} (h : tabB K a t = true) (hm : mg x = some (.ref a)) (hk : ∃ es n, KDict K w a es n) : TabOk K w mg x t := by
  obtain ⟨es, n, D⟩ := hk
  refine ⟨a, es, n, hm, D, fun z => ?_⟩
  unfold tabB at h
  rw [D.at_] at h
  have h' : entB K t es.toList = true := h
  obtain ⟨i1, i2⟩ := entB_at z t es.toList h'
  have e : PySem.W.nsIn K a z = (match es.toList.find? (·.key.isStr z) with
      | some e => some (some e.val)
      | none => if es.toList.any (·.refKey) then none else some none) := by
    unfold PySem.W.nsIn
    rw [D.at_]
    rfl
  cases q : t.at z with
  | none =>
    rw [q] at i2
    have i2 : es.toList.find? (·.key.isStr z) = none := i2
    show PySem.W.nsIn K a z = some none
    rw [e, i2, i1]
    rfl
  | some d =>
    rw [q] at i2
    obtain ⟨f, v, g1, g2, g3⟩ := i2
    refine ⟨f.val, v, ?_, g2, g3⟩
    rw [e, g1]
section
variable {X : Cx} {J : Jr} {e a b c : Expr} {es : List Expr} {pos : Pos}
def qKget (t : Tb) (qe : QD) : QD := fun ρ P => qe ρ fun d ρ' => ∃ z dv, d = .str z ∧ t.at z = some dv ∧ P dv ρ'
theorem pd_kget {t : Tb} {x : Str} {p : Pos} {qe : QD} (h : TabOk X.K X.w X.mg x t) (hg : Gl X x) (he : PD J X e qe) (hs : PlainIx e) (hdb : (x == ("__debug__" : Str)) = false := by decide) : PD J X (.Subscript (.Name x p) e pos) (qKget t qe) := by
  obtain ⟨a, es, n, hm, D, hz⟩ := h
  exact pe_mono (pe_ix ix_kdict (pe_glob (v := .ref a) hg hm rfl hdb) he hs) fun σ H Q ⟨n, H0, ρ, P, R, w, k⟩ => ⟨n, H0, ρ, _, R, w, fun v H1 H01 d ρ1 R1 S1 hd ⟨z, dv, ez, ht, hp⟩ => by
    subst ez
    have q := hz z
    rw [ht] at q
    obtain ⟨u, v0, q1, q2, q3⟩ := q
    exact ⟨a, z, v0, rfl, dp_str hd, ⟨es, _, u, D.at_, D.lit, q1, q2⟩, k v0 H1 H01 dv ρ1 R1 S1 (q3 _) hp⟩⟩
def qKin (t : Tb) (g : Bool → Bool) (qe : QD) : QR := fun ρ P => qe ρ fun d ρ' => ∃ z, d = .str z ∧ P (.da (.bool (g (t.at z).isSome))) ρ'
theorem kin_ready {K : PySem.W.Frag} {n : En} {σ : L2.St} {H H0 : Hp} {ρ : List Sl} {t : Tb} {w : World} {mg : Str → Option Value} {x : Str} (h : TabOk K w mg x t) : ∃ a es n, mg x = some (.ref a) ∧ KDict K w a es n ∧ ∀ z, ∃ r, PySem.W.nsIn K a z = some r ∧ r.isSome = (t.at z).isSome := by
  obtain ⟨a, es, n, hm, D, hz⟩ := h
  refine ⟨a, es, n, hm, D, fun z => ?_⟩
  have q := hz z
  cases e : t.at z with
  | none => rw [e] at q; exact ⟨none, q, rfl⟩
  | some d => rw [e] at q; obtain ⟨u, v, q1, _⟩ := q; exact ⟨some u, q1, rfl⟩
theorem kin_mono {t : Tb} {g : Bool → Bool} {qe : QD} {a : Addr} (hz : ∀ z, ∃ r, PySem.W.nsIn X.K a z = some r ∧ r.isSome = (t.at z).isSome) : ∀ σ H Q, tR X.K J (qKin t g qe) σ H Q → tOp (fun x y H Q => ∃ (z : Str) (r : Option Value), x = .str z ∧ y = .ref a ∧ PySem.W.nsIn X.K a z = some r ∧ Q (.bl (g r.isSome)) H) (tD X.K J qe) (tC (.ref a)) σ H Q := fun σ H Q ⟨n, H0, ρ, P, R, w, k⟩ =>
  ⟨n, H0, ρ, _, R, w, fun v H1 H01 d ρ1 R1 S1 hd ⟨z, ez, hp⟩ => by
    subst ez
    obtain ⟨r, q1, q2⟩ := hz z
    refine ⟨z, r, dp_str hd, rfl, q1, ?_⟩
    rw [q2]
    exact k _ H1 H01 (.da (.bool (g (t.at z).isSome))) ρ1 R1 S1 (Dq.bl _) hp⟩
theorem pr_kin {t : Tb} {x : Str} {p : Pos} {qe : QD} (h : TabOk X.K X.w X.mg x t) (hg : Gl X x) (he : PD J X e qe) (hm : behindInMarks .In (.Name x p) = false := by rfl) (hdb : (x == ("__debug__" : Str)) = false := by decide) : PR J X (.Compare e [.In] [.Name x p] pos) (qKin t (fun b => b) qe) := by
  obtain ⟨a, es, n, hmg, D, hz⟩ := kin_ready (n := ⟨fun _ => none, fun _ => none, [], .non⟩) (σ := []) (H := fun _ => none) (H0 := fun _ => none) (ρ := []) h
  exact pe_mono (pe_cmpR (op_in_kd D) he (pe_glob (v := .ref a) hg hmg rfl hdb) hm) (kin_mono hz)
theorem pr_knotin {t : Tb} {x : Str} {p : Pos} {qe : QD} (h : TabOk X.K X.w X.mg x t) (hg : Gl X x) (he : PD J X e qe) (hm : behindInMarks .NotIn (.Name x p) = false := by rfl) (hdb : (x == ("__debug__" : Str)) = false := by decide) : PR J X (.Compare e [.NotIn] [.Name x p] pos) (qKin t (fun b => !b) qe) := by
  obtain ⟨a, es, n, hmg, D, hz⟩ := kin_ready (n := ⟨fun _ => none, fun _ => none, [], .non⟩) (σ := []) (H := fun _ => none) (H0 := fun _ => none) (ρ := []) h
  exact pe_mono (pe_cmpR (op_notIn_kd D) he (pe_glob (v := .ref a) hg hmg rfl hdb) hm) (kin_mono hz)
theorem pb_kin {t : Tb} {x : Str} {p : Pos} {qe : QD} (h : TabOk X.K X.w X.mg x t) (hg : Gl X x) (he : PD J X e qe) (hm : behindInMarks .In (.Name x p) = false := by rfl) (hdb : (x == ("__debug__" : Str)) = false := by decide) : PB J X (.Compare e [.In] [.Name x p] pos) (qTst (qKin t (fun b => b) qe)) := by
  obtain ⟨a, es, n, hmg, D, hz⟩ := kin_ready (n := ⟨fun _ => none, fun _ => none, [], .non⟩) (σ := []) (H := fun _ => none) (H0 := fun _ => none) (ρ := []) h
  exact pt_mono (pt_cmpR (op_in_kd D) he (pe_glob (v := .ref a) hg hmg rfl hdb) hm) (tst_mono (kin_mono hz))
theorem pb_knotin {t : Tb} {x : Str} {p : Pos} {qe : QD} (h : TabOk X.K X.w X.mg x t) (hg : Gl X x) (he : PD J X e qe) (hm : behindInMarks .NotIn (.Name x p) = false := by rfl) (hdb : (x == ("__debug__" : Str)) = false := by decide) : PB J X (.Compare e [.NotIn] [.Name x p] pos) (qTst (qKin t (fun b => !b) qe)) := by
  obtain ⟨a, es, n, hmg, D, hz⟩ := kin_ready (n := ⟨fun _ => none, fun _ => none, [], .non⟩) (σ := []) (H := fun _ => none) (H0 := fun _ => none) (ρ := []) h
  exact pt_mono (pt_cmpR (op_notIn_kd D) he (pe_glob (v := .ref a) hg hmg rfl hdb) hm) (tst_mono (kin_mono hz))
theorem pd_dat {x : Str} {d : D} {p : Pos} (h : DatOk X.K X.mg x d) (hg : Gl X x) (hdb : (x == ("__debug__" : Str)) = false := by decide) : PD J X (.Name x p) (qC d) := pd_glob hg h hdb
end
/-! ### the head's facts -/
def glB (K : PySem.W.Frag) (x : Str) (d : PyData) : Bool := match PySem.W.nsIn K mainGlobals x with
  | some (some u) => datB K d u
  | _ => false
theorem glB_ok {K : PySem.W.Frag} {h : Heap} {mg : Str → Option Value} {x : Str} {d : PyData} (X : K.In h) (G : h.Ns mainGlobals mg) (e : glB K x d = true) : DatOk K mg x d := by
  unfold glB at e
  split at e
  · rename_i u q
    obtain ⟨v, r, w⟩ := datB_ok d u e
    exact ⟨u, v, PySem.W.mg_of X G q, r, w⟩
  · cases e
def bfB (K : PySem.W.Frag) (x : Str) (id : String) : Bool := match PySem.W.nsIn K mainGlobals x with
  | some (some (.builtin y)) => decide (y = id)
  | _ => false
theorem bfB_ok {K : PySem.W.Frag} {h : Heap} {mg : Str → Option Value} {x : Str} {id : String} (X : K.In h) (G : h.Ns mainGlobals mg) (e : bfB K x id = true) : mg x = some (.builtin id) := by
  unfold bfB at e
  split at e
  · rename_i y q
    have z : y = id := of_decide_eq_true e
    subst z
    exact PySem.W.mg_of X G q
  · cases e
end Zd

set_option Elab.async false
set_option linter.all false
set_option maxRecDepth 100000
set_option maxHeartbeats 4000000
namespace Zd
open PySem PySem.Spec PyProof.Rows L2
/-! ### more of the language: a text from behind, a text many times, the place of a text -/
def revS (x : Str) : Str := ⟨x.cps.toList.reverse.toArray⟩
def tRev (K : PySem.W.Frag) (te : TE) : TE := fun σ H Q => te σ H fun x H1 => (∃ z, x = .str z ∧ z.length ≤ sizeLine ∧ Q (.str (revS z)) H1) ∨ ∃ a xs, x = .ref a ∧ SqL K H1 a xs ∧ ∀ p, H1 p = none → Q (.ref p) (upd H1 p (.lst xs.reverse))
section
variable {X : Cx} {J : Jr} {e a b c : Expr} {es : List Expr} {pos : Pos}
theorem rev_idx (n : Nat) : Builtin.Str.strSliceIndices none none (-1) n = (List.range n).map fun k => n - 1 - k := by
  rw [← PySem.W.krv_sliceRange]
  rfl
theorem rev_pick (x : Str) : ((Builtin.Str.strSliceIndices none none (-1) x.length).filterMap (x.cps[·]?)).toArray = x.cps.toList.reverse.toArray := by
  rw [rev_idx, PySem.W.krv_range, List.filterMap_reverse]
  have : (List.range x.length).filterMap (x.cps[·]?) = x.cps.toList := PySem.W.krv_all x.cps
  rw [this]
theorem pe_rev {te : TE} {k : Nat} {p1 p2 p3 : Pos} (he : PE X e te) : PE X (.Subscript e (.Slice none none (some (.UnaryOp .USub (.Constant (.int 1) k p1) p2)) p3) pos) (tRev X.K te) := by
  refine ⟨fun pins s σ H Q I h => ?_⟩
  refine Subscript_ (thn (he.run pins s σ H _ I h) fun v s1 ⟨x, H1, I1, r1, q1⟩ => ?_)
  have hst : PO X (some (.UnaryOp .USub (.Constant (.int 1) k p1) p2)) (tPart (tUn (rU fun i => .int (-i)) (tC (.int 1)))) := po_some (pe_un un_neg pe_int)
  refine wpAny_Slice (thn (po_none.run pins s1 σ H1 (fun o H2 => o = none ∧ H2 = H1) I1 ⟨rfl, rfl⟩) fun vl s2 ⟨l, H2, I2, pl, el, e2⟩ => ?_)
  subst el e2
  refine thn (po_none.run pins s2 σ H2 (fun o H3 => o = none ∧ H3 = H2) I2 ⟨rfl, rfl⟩) fun vu s3 ⟨u, H3, I3, pu, eu, e3⟩ => ?_
  subst eu e3
  refine thn (hst.run pins s3 σ H3 (fun o H4 => o = some (-1) ∧ H4 = H3) I3 ⟨1, rfl, -1, rfl, rfl, rfl⟩) fun vs s4 ⟨o, H4, I4, ps, eo, e4⟩ => ?_
  subst eo e4
  have I5 : Inv X pins σ H4 { s4 with heap := s4.heap.push { cls := .type "slice", data := .fields #[vl, vu, vs] } } := I4.kept (t' := s4.toks) fun b ob q => Heap.get?_push_of_some _ q
  rcases q1 with ⟨z, ex, hz, q⟩ | ⟨a, xs, ex, hx, q⟩
  rotate_left
  · subst ex
    cases r1
    obtain ⟨its, r, ht, hz⟩ := I5.list hx
    have hlen := r.length
    refine tail_any (ops := [.ref a, .ref s4.heap.objs.size]) ht.isList.typeIs (PySem.slot_list_getitem.lookup) ?_ (by with_unfolding_all rfl)
    refine wpAny_getItem_list_slice ht.isList (Heap.IsSliceOf.new _ vl vu vs) pl pu ps (by decide) ?_ (by rw [List.size_toArray]; omega)
    rw [PySem.W.krv_pick]
    refine ⟨.ref _, _, I5.laid (t' := s4.toks) (o := .lst xs.reverse) (fun b ob q => Heap.get?_push_of_some _ q) (Nat.le_refl _) ?_, rfl, q _ (I5.hok.fresh (Nat.le_refl _))⟩
    exact ⟨by rw [List.length_reverse]; exact hz, _, 0, r.reverse, Heap.get?_push_size _ rfl⟩
  subst ex
  obtain ⟨tz, rfl⟩ := r1
  refine tail_any (ops := [.str z tz, .ref s4.heap.objs.size]) (typeIs_str _ _ _) PySem.F.slot_str_getitem.lookup ?_ (by with_unfolding_all rfl)
  obtain ⟨l, rfl, hl⟩ := IsPart.raw pl
  obtain ⟨u, rfl, hu⟩ := IsPart.raw pu
  obtain ⟨st, rfl, hs⟩ := IsPart.raw ps
  refine wpAny_getItem_str_slice (l := l) (u := u) (st := st) ⟨_, Heap.get?_push_size _ rfl, rfl, rfl⟩ (by rw [hs]; rfl) ?_
  have hlen : (revS z).length ≤ sizeLine := by
    show (z.cps.toList.reverse.toArray).size ≤ sizeLine
    rw [List.size_toArray, List.length_reverse, Array.length_toList]
    exact hz
  have em : sliceMade z tz l u st = .str (revS z) := by
    unfold sliceMade slicePicked revS
    rw [hl, hu, hs, ← rev_pick]
    rfl
  rw [em]
  exact ⟨hlen, .str _, _, I5.tok _, ⟨_, rfl⟩, q⟩
theorem dpa_rev {K : PySem.W.Frag} {H : Hp} : ∀ {ds : List D} {xs : List V}, DqAll K H xs ds → DqAll K H xs.reverse ds.reverse
  | [], _, h => by cases h; exact .nil
  | d :: ds, _, h => by
    cases h with
    | cons h1 h2 =>
      rw [List.reverse_cons, List.reverse_cons]
      exact dpa_app (dpa_rev h2) (dpa_one h1)
/-- e[::-1] of a text or a list -/
def qRev (q : QD) : QR := fun ρ P => q ρ fun d ρ' => match d with
  | .str z => z.length ≤ sizeLine ∧ P (.da (.str (revS z))) ρ'
  | .list ds => P (.ow ds.reverse) ρ'
  | _ => False
theorem pr_rev {q : QD} {k : Nat} {p1 p2 p3 : Pos} (he : PV J X e q) : PR J X (.Subscript e (.Slice none none (some (.UnaryOp .USub (.Constant (.int 1) k p1) p2)) p3) pos) (qRev q) :=
  pe_mono (pe_rev he) fun σ H Q ⟨n, H0, ρ, P, R, w, k⟩ => ⟨n, H0, ρ, _, R, w, fun v H1 H01 d ρ1 R1 S1 hd w1 => by
    cases d with
    | str z => exact .inl ⟨z, hd.str, w1.1, k _ H1 H01 (.da (.str (revS z))) ρ1 R1 S1 (Dq.str _) w1.2⟩
    | list ds =>
      obtain ⟨a, xs, rfl, s1, m1⟩ := hd.lst R1.sub
      refine .inr ⟨a, xs, rfl, s1, fun p hp => k _ _ H01 (.ow ds.reverse) ρ1 (R1.laid hp) S1 ⟨p, xs.reverse, rfl, upd_same, dpa_rev m1, R1.h0 hp, R1.he0 hp, fun i es e => ?_⟩ w1⟩
      obtain ⟨b, ys, h1, h2, _⟩ := R1.sl i _ e
      intro z
      rw [h1] at z
      cases z
      rw [hp] at h2
      cases h2
    | _ => exact w1.elim⟩
/-- s.index(x) of texts, x there -/
def qSindex (qa qb : QD) : QD := fun ρ P => qa ρ fun d ρ1 => ∃ a, d = .str a ∧ qb ρ1 fun e ρ2 => ∃ b i rest, e = .str b ∧ Builtin.Str.occurrences a b 0 a.length 1 = i :: rest ∧ P (.int (i : Nat)) ρ2
theorem pd_sindex {qa qb : QD} {o : Expr} {apos : Pos} (ho : PD J X o qa) (ha : PD J X e qb)
    (hbase : attributeBase o "index" X.env (eval o X.env) = eval o X.env := by rfl)
    (hfew : ((backTo pos (starEach [e] X.env)).all (fun x => !x.1) && (backToKw pos (keywordEach [] X.env)).all (fun x => x.1.isSome) && decide ([e].length + ([] : List Keyword).length + (if ([] : List Keyword).isEmpty then 0 else 1) < 30)) = true := by rfl)
    (hline : (apos.endLine == pos.line) = true := by rfl) (hs : starEach [e] X.env = (false, eval e X.env) :: starEach [] X.env := by rfl) (hplain : (backTo pos (starEach [] X.env)).any (·.1) = false := by rfl) :
    PD J X (.Call (.Attribute o "index" apos) [e] [] pos) (qSindex qa qb) :=
  pe_mono (pe_bm PySem.F.plainAttrs_str PySem.F.slot_str_index PySem.F.type_str_index mt_sindex ho (pa_cons ha pa_nil hs) hbase hfew hline hs hplain) fun σ H Q ⟨n, H0, ρ, P, R, w, k⟩ =>
    ⟨n, H0, ρ, _, R, w, fun v H1 H01 d ρ1 R1 S1 hd ⟨a, ea, w1⟩ => by
      subst ea
      have ev := dp_str hd
      subst ev
      exact ⟨rfl, n, H01, ρ1, _, R1, w1, fun u H2 H02 f ρ2 R2 S2 hf ⟨b, i, rest, eb, ho, hp⟩ => by
        subst eb
        have eu := dp_str hf
        subst eu
        exact ⟨a, b, i, rest, rfl, rfl, ho, k _ H2 H02 _ ρ2 R2 (S1.trans S2) (Dq.int _) hp⟩⟩⟩
theorem cl_gcd : DclOk J X (.builtin "math.gcd") cGcd := ⟨_, cr_gcd, fun n σ H H0 ρ vs ds P Q R hp w k => by
  match ds, w with
  | [.int i, .int j], w =>
    obtain ⟨u, v, rfl, h, h'⟩ := paired2 hp
    have e := h.int
    have e' := h'.int
    subst e; subst e'
    exact ⟨i, j, rfl, here k R (Dq.int _) w⟩⟩
theorem pr_callF {id : String} {g : DCl} {m : Nat} {qa : QL} {x : Str} {p : Pos} (hc : DclOk J X (.builtin id) g) (hg : Gl X x) (hm : X.mg x = some (.builtin id)) (ha : PLV J X (e :: es) m qa) (hdb : (x == ("__debug__" : Str)) = false := by decide)
    (he : starEach (e :: es) X.env = (false, eval e X.env) :: starEach es X.env := by rfl) (hpl : (backTo pos (starEach es X.env)).any (·.1) = false := by rfl) : PR J X (.Call (.Name x p) (e :: es) [] pos) (qCl g qa) := by
  obtain ⟨r, h1, h2⟩ := hc
  exact pe_mono (pe_callBfun h1 hg hm ha hdb he hpl) (cl_mono h2)
end
end Zd

set_option Elab.async false
set_option linter.all false
set_option maxRecDepth 100000
set_option maxHeartbeats 4000000
namespace Zd
open PySem PySem.Spec PyProof.Rows L2
/-! ### written displays of dicts: a value taken out at once -/
def vOf : PyData → V
  | .bool b => .bl b
  | .int i => .int i
  | .str x => .str x
  | _ => .non
theorem vOf_ok {K : PySem.W.Frag} {H : Hp} : ∀ {d : PyData}, flatD d = true → Dq K H (vOf d) d
  | .none, _ => .non
  | .bool _, _ => .bl _
  | .int _, _ => .int _
  | .str _, _ => .str _
abbrev Kd := List (L2.Key × PyData)
def Kd.vs (t : Kd) : List (L2.Key × V) := t.map fun p => (p.1, vOf p.2)
def Kd.at (t : Kd) (k : L2.Key) : Option PyData := match t with
  | [] => none
  | (k0, d) :: r => if k = k0 then some d else Kd.at r k
theorem kd_at (k : L2.Key) : ∀ (t : Kd), valV t.vs k = (t.at k).map vOf
  | [] => rfl
  | (k0, d) :: r => by
    have ih := kd_at k r
    unfold valV at ih ⊢
    show (List.find? (fun kv => decide (kv.1 = k)) ((k0, vOf d) :: Kd.vs r)).map (·.2) = _
    rw [List.find?_cons]
    unfold Kd.at
    by_cases q : k = k0
    · subst q
      simp
    · have q' : ¬ k0 = k := fun z => q z.symm
      rw [if_neg q]
      simp only [q', decide_false]
      exact ih
def tCd (t : Kd) : TE := fun _ H Q => ∀ p, H p = none → Q (.ref p) (upd H p (.dK t.vs))
theorem pairs_cd (t : Kd) : ∀ (σ : L2.St) (H : Hp) (Q : List (V × V) → Hp → Prop), Q (t.vs.map fun kv => (kV kv.1, kv.2)) H → tPairs (t.map fun p => (tC (kV p.1), tC (vOf p.2))) σ H Q := by
  induction t with
  | nil => intro σ H Q h; exact h
  | cons p r ih =>
    intro σ H Q h
    show tPairs (r.map fun p => (tC (kV p.1), tC (vOf p.2))) σ H fun ps H3 => Q ((kV p.1, vOf p.2) :: ps) H3
    exact ih σ H _ h
theorem upd_upd {H : Hp} {p : Addr} {o u : HO} : upd (upd H p o) p u = upd H p u := by
  funext a
  by_cases q : a = p
  · subst q; rw [upd_same, upd_same]
  · rw [upd_ne q, upd_ne q, upd_ne q]
section
variable {X : Cx} {J : Jr} {e f a b c : Expr} {es : List Expr} {pos : Pos}
theorem pe_cd {t : Kd} {keys : List (Option Expr)} {values : List Expr} (h : PPs X pos keys values (t.map fun p => (tC (kV p.1), tC (vOf p.2)))) (hm : mergeK [] t.vs = t.vs) (h15 : decide (t.length ≤ 15) = true) (hall : keys.all (·.isSome) = true := by rfl) (hl : keys.length = values.length := by rfl) (h0 : keys ≠ [] := by intro z; cases z)
    (hk15 : decide (keys.length ≤ 15) = true := by rfl) : PE X (.Dict keys values pos) (tCd t) :=
  pe_mono (pe_disp h hall hl h0 (of_decide_eq_true hk15)) fun σ H Q q p hp => pairs_cd t σ _ _ ⟨upd_same, t.vs, rfl, by unfold Kd.vs; rw [List.length_map]; exact of_decide_eq_true h15, by rw [hm, upd_upd]; exact q p hp⟩
def keyD : D → Option L2.Key
  | .int i => some (.inl i)
  | .str x => some (.inr x)
  | _ => none
theorem keyD_v {K : PySem.W.Frag} {H : Hp} {v : V} {d : D} {k : L2.Key} (h : Dq K H v d) (e : keyD d = some k) : v = kV k := by
  cases d with
  | int i => cases e; exact dp_int h
  | str x => cases e; exact dp_str h
  | _ => cases e
/-- {..}[e] -/
def qCget (t : Kd) (qe : QD) : QR := fun ρ P => qe ρ fun d ρ' => ∃ k dv, keyD d = some k ∧ t.at k = some dv ∧ flatD dv = true ∧ P (.da dv) ρ'
theorem pr_cget {t : Kd} {keys : List (Option Expr)} {values : List Expr} {p2 : Pos} {qe : QD} (hu : X.A.units + 64 < cLine) (h : PPs X p2 keys values (t.map fun p => (tC (kV p.1), tC (vOf p.2)))) (hm : mergeK [] t.vs = t.vs) (h15 : decide (t.length ≤ 15) = true) (he : PD J X e qe) (hs : NoSl e)
    (hall : keys.all (·.isSome) = true := by rfl) (hl : keys.length = values.length := by rfl) (h0 : keys ≠ [] := by intro z; cases z) (hk15 : decide (keys.length ≤ 15) = true := by rfl) : PR J X (.Subscript (.Dict keys values p2) e pos) (qCget t qe) :=
  pe_mono (pe_dget (by omega) (pe_cd h hm h15 hall hl h0 hk15) he hs) fun σ H Q ⟨n, H0, ρ, P, R, w, k⟩ p hp => by
    have hno : ∀ (i : Nat) (es : List D), ρ[i]? = some (Sl.ow es) → σ[i]? ≠ some (some (V.ref p)) := fun i es e z => by
      obtain ⟨b, ys, h1, h2, _⟩ := R.sl i _ e
      rw [h1] at z
      cases z
      rw [hp] at h2
      cases h2
    have na : p ∉ n.as := fun q => R.hej (R.jdom p q).2 hp
    refine ⟨n.keep p (.dK t.vs), H0, ρ, _, (R.laid hp).keep upd_same (R.h0 hp) (R.he0 hp) hno (R.od_new hp), w, fun v H1 H01 d ρ1 R1 S1 hd ⟨kk, dv, e1, e2, e3, hP⟩ => ?_⟩
    have hk := Rp.kept na R1
    have hv := keyD_v hd e1
    subst hv
    refine ⟨p, vOf dv, rfl, ?_, k _ H1 H01 (.da dv) ρ1 (R1.unkeep (R.he0 hp) R.jdom) S1 (vOf_ok e3) hP⟩
    have g := DGet.k (k := kk) hk
    rw [kd_at, e2] at g
    exact g
/-- {..}.get(e, x), x written -/
def qCget2 (t : Kd) (qe : QD) (x : D) : QR := fun ρ P => qe ρ fun d ρ' => ∃ k, keyD d = some k ∧ flatD ((t.at k).getD x) = true ∧ P (.da ((t.at k).getD x)) ρ'
theorem pr_cget2 {t : Kd} {x : D} {keys : List (Option Expr)} {values : List Expr} {p2 apos : Pos} {qe : QD} (hu : X.A.units + 64 < cLine) (h : PPs X p2 keys values (t.map fun p => (tC (kV p.1), tC (vOf p.2)))) (hm : mergeK [] t.vs = t.vs) (h15 : decide (t.length ≤ 15) = true) (he : PD J X e qe) (hf : PE X f (tC (vOf x))) (m : M2 X (.Dict keys values p2) "get" apos e f pos)
    (hall : keys.all (·.isSome) = true := by rfl) (hl : keys.length = values.length := by rfl) (h0 : keys ≠ [] := by intro z; cases z) (hk15 : decide (keys.length ≤ 15) = true := by rfl) : PR J X (.Call (.Attribute (.Dict keys values p2) "get" apos) [e, f] [] pos) (qCget2 t qe x) :=
  pe_mono (pe_dget2 (by omega) (pe_cd h hm h15 hall hl h0 hk15) he hf m) fun σ H Q ⟨n, H0, ρ, P, R, w, k⟩ p hp => by
    have hno : ∀ (i : Nat) (es : List D), ρ[i]? = some (Sl.ow es) → σ[i]? ≠ some (some (V.ref p)) := fun i es e z => by
      obtain ⟨b, ys, h1, h2, _⟩ := R.sl i _ e
      rw [h1] at z
      cases z
      rw [hp] at h2
      cases h2
    have na : p ∉ n.as := fun q => R.hej (R.jdom p q).2 hp
    refine ⟨p, rfl, .inl ⟨t.vs, .inl upd_same⟩, n.keep p (.dK t.vs), H0, ρ, _, (R.laid hp).keep upd_same (R.h0 hp) (R.he0 hp) hno (R.od_new hp), w, fun v H1 H01 d ρ1 R1 S1 hd ⟨kk, e1, e3, hP⟩ => ?_⟩
    have hk := Rp.kept na R1
    have hv := keyD_v hd e1
    subst hv
    refine ⟨_, DGet.k (k := kk) hk, ?_⟩
    rw [kd_at]
    have e : ((t.at kk).map vOf).getD (vOf x) = vOf ((t.at kk).getD x) := by cases t.at kk <;> rfl
    rw [e]
    exact k _ H1 H01 (.da ((t.at kk).getD x)) ρ1 (R1.unkeep (R.he0 hp) R.jdom) S1 (vOf_ok e3) hP
end
end Zd

set_option Elab.async false
set_option linter.all false
set_option maxRecDepth 100000
set_option maxHeartbeats 4000000
namespace Zd
open PySem PySem.Spec PyProof.Rows L2
/-! ### the open drawing thing: a part that is a dict -/
theorem nodup_cell {K : PySem.W.Frag} {H : Hp} : ∀ {k : Nat} {xs : List V} {es : List Nd} {bs : List Addr} {b : Addr} {ks : List L2.Key} {ds : List D}, NdAll K H xs es bs → es[k]? = some (.m ks ds) → xs[k]? = some (.ref b) → b ∈ bs
  | 0, _, _, _, _, _, _, .dat .., z, _ => by cases z
  | 0, _, _, _, _, _, _, .lst .., z, _ => by cases z
  | 0, _, _, _, _, _, _, .dic .., z, e => by cases e; exact List.mem_cons_self ..
  | k + 1, _, _, _, _, _, _, .dat _ _ t, z, e => nodup_cell (k := k) t z e
  | k + 1, _, _, _, _, _, _, .lst _ _ _ _ t, z, e => List.mem_cons_of_mem _ (nodup_cell (k := k) t z e)
  | k + 1, _, _, _, _, _, _, .dic _ _ _ _ _ t, z, e => List.mem_cons_of_mem _ (nodup_cell (k := k) t z e)
/-- a dict within becomes another one -/
theorem NdAll.put_m {K : PySem.W.Frag} {H : Hp} {b : Addr} {ys : List V} {ks : List L2.Key} {ds : List D} (hl' : ks.length = ys.length) (hd' : DqAll K (upd H b (.dK (ks.zip ys))) ys ds) (ht : isTs ds = true) : ∀ {p : Nat} {xs : List V} {es : List Nd} {bs : List Addr} {ks0 : List L2.Key} {ds0 : List D}, NdAll K H xs es bs → es[p]? = some (.m ks0 ds0) → xs[p]? = some (.ref b) →
    NdAll K (upd H b (.dK (ks.zip ys))) xs (es.set p (.m ks ds)) bs
  | 0, _, _, _, _, _, .dat .., z, _ => by cases z
  | 0, _, _, _, _, _, .lst .., z, _ => by cases z
  | 0, _, _, _, _, _, .dic h hl hd ht' hn t, z, e => by
    cases e
    exact .dic upd_same hl' hd' ht hn (t.loc (keep_upd h rfl) fun c hc => upd_ne (fun q => hn (by rw [← q]; exact hc)))
  | p + 1, _, _, _, _, _, .dat h ht' t, z, e => by
    obtain ⟨x, h1, b1, ys1, h2, h3, h4, _⟩ := t.get (p := p) z
    have e' := h1.symm.trans ((List.getElem?_cons_succ).symm.trans e)
    cases e'
    cases h2
    exact .dat (dq_keep (keep_upd h4 rfl) _ _ ht' h) ht' (NdAll.put_m hl' hd' ht (p := p) t z e)
  | p + 1, _, _, _, _, _, .lst h hd ht' hn t, z, e => by
    obtain ⟨x, h1, b1, ys1, h2, h3, h4, _⟩ := t.get (p := p) z
    have e' := h1.symm.trans ((List.getElem?_cons_succ).symm.trans e)
    cases e'
    cases h2
    exact .lst (by rw [upd_ne (fun q => hn (by rw [q]; exact h3))]; exact h) (dqa_keep (keep_upd h4 rfl) _ _ ht' hd) ht' hn (NdAll.put_m hl' hd' ht (p := p) t z e)
  | p + 1, _, _, _, _, _, .dic h hl hd ht' hn t, z, e => by
    obtain ⟨x, h1, b1, ys1, h2, h3, h4, _⟩ := t.get (p := p) z
    have e' := h1.symm.trans ((List.getElem?_cons_succ).symm.trans e)
    cases e'
    cases h2
    exact .dic (by rw [upd_ne (fun q => hn (by rw [q]; exact h3))]; exact h) hl (dqa_keep (keep_upd h4 rfl) _ _ ht' hd) ht' hn (NdAll.put_m hl' hd' ht (p := p) t z e)
theorem NdAll.samem {K : PySem.W.Frag} {H H1 : Hp} : ∀ {k : Nat} {xs ys : List V} {es : List Nd} {bs : List Addr} {ks : List L2.Key} {ds : List D}, NdAll K H xs es bs → NdAll K H1 ys es bs → es[k]? = some (.m ks ds) → xs[k]? = ys[k]?
  | 0, _, _, _, _, _, _, .dat .., .dat .., z => by cases z
  | 0, _, _, _, _, _, _, .lst .., .lst .., z => rfl
  | 0, _, _, _, _, _, _, .dic .., .dic .., z => rfl
  | k + 1, _, _, _, _, _, _, .dat _ _ t, .dat _ _ u, z => NdAll.samem (k := k) t u z
  | k + 1, _, _, _, _, _, _, .lst _ _ _ _ t, .lst _ _ _ _ u, z => NdAll.samem (k := k) t u z
  | k + 1, _, _, _, _, _, _, .dic _ _ _ _ _ t, .dic _ _ _ _ _ u, z => NdAll.samem (k := k) t u z
section
variable {J : Jr}
theorem Rp.jdict {K : PySem.W.Frag} {n : En} {σ : L2.St} {H H0 : Hp} {ρ : List Sl} (R : Rp K J n σ H H0 ρ) (jo : JOpen K J) {i k : Nat} {c : Jc} {ks ks' : List L2.Key} {ds ds' : List D} (h : ρ[i]? = some (.jo c)) (ht : c.top = none) (hk : c.es[k]? = some (.m ks ds)) :
    ∃ j xs b ys, σ[i]? = some (some (.ref j)) ∧ H j = some (.lst xs) ∧ xs[k]? = some (.ref b) ∧ H b = some (.dK (ks.zip ys)) ∧ ks.length = ys.length ∧ DqAll K H ys ds ∧ isTs ds = true ∧
      (∀ (H' H0' : Hp) (ρ' : List Sl), Rp K J n σ H' H0' ρ' → ρ'[i]? = some (.jo c) → ∀ j' xs', σ[i]? = some (some (.ref j')) → H' j' = some (.lst xs') → xs'[k]? = some (.ref b)) ∧
      ∀ ys', ks'.length = ys'.length → DqAll K H ys' ds' → isTs ds' = true → Rp K J n σ (upd H b (.dK (ks'.zip ys'))) H0 (ρ.set i (.jo (c.put k (.m ks' ds')))) := by
  obtain ⟨j, xs, bs, x, q1, q2, q3, q4, q5, q6, q7, b, ys, rfl, hb, g1, g0, g2, g3⟩ := R.jpart h ht hk
  refine ⟨j, xs, b, ys, q1, q4, q7, g1, g0, g2, g3, fun H' H0' ρ' R' e' j1 xs1 s1 s2 => ?_, fun ys' hl' hy ht' => ?_⟩
  · obtain ⟨j', xs', bs', x', p1, p2, p3, p4, p5, p6, p7, b', ys', rfl, hb', f1, f2, f3⟩ := R'.jpart e' ht hk
    rw [q2] at p2
    cases p2
    rw [s1] at p1
    cases p1
    rw [s2] at p4
    cases p4
    exact (q5.samem p5 hk).symm.trans q7
  · have ba : b ∈ n.as := by rw [q2]; exact List.mem_cons_of_mem _ hb
    refine R.jput h ba jo ⟨j, xs, bs, q2, q3, ?_, q5.put_m hl' (dqa_keep (keep_upd g1 rfl) _ _ ht' hy) ht' hk q7, q6, fun ks hks => ?_⟩
    · show upd H b (.dK (ks'.zip ys')) j = some (topHO c.top xs)
      rw [upd_ne (fun q => q6 (by rw [q]; exact hb)), ht]
      exact q4
    · have : (none : Option (List Str)) = some ks := ht.symm.trans hks
      cases this
end
/-- what stands at a key -/
def mAt : List L2.Key → List D → L2.Key → Option D
  | k0 :: ks, d :: ds, k => if k = k0 then some d else mAt ks ds k
  | _, _, _ => none
def mHas (ks : List L2.Key) (k : L2.Key) : Bool := ks.any fun x => decide (x = k)
def mKs (ks : List L2.Key) (k : L2.Key) : List L2.Key := if mHas ks k = true then ks else ks ++ [k]
def mRe (k : L2.Key) (d : D) : List L2.Key → List D → List D
  | k0 :: ks, d0 :: ds => (if k0 = k then d else d0) :: mRe k d ks ds
  | _, _ => []
def mDs (ks : List L2.Key) (ds : List D) (k : L2.Key) (d : D) : List D := if mHas ks k = true then mRe k d ks ds else ds ++ [d]
theorem valV_zip {K : PySem.W.Frag} {H : Hp} (k : L2.Key) : ∀ {ks : List L2.Key} {ys : List V} {ds : List D}, ks.length = ys.length → DqAll K H ys ds → (match mAt ks ds k with
    | some d => ∃ v, valV (ks.zip ys) k = some v ∧ Dq K H v d
    | none => valV (ks.zip ys) k = none)
  | [], _, ds, _, h => by
    cases ds <;> rfl
  | k0 :: ks, [], _, e, _ => by cases e
  | k0 :: ks, y :: ys, ds, e, h => by
    cases h with
    | @cons _ _ d ds h t =>
      have ih := valV_zip (K := K) (H := H) k (ks := ks) (ys := ys) (ds := ds) (by simpa using e) t
      unfold mAt
      by_cases q : k = k0
      · rw [if_pos q]
        exact ⟨y, valV_pos (p := (k0, y)) q.symm, h⟩
      · rw [if_neg q, List.zip_cons_cons, valV_neg (p := (k0, y)) (fun z => q z.symm)]
        exact ih
theorem mAt_mem (k : L2.Key) : ∀ {ks : List L2.Key} {ds : List D}, ks.length = ds.length → (mAt ks ds k).isSome = mHas ks k
  | [], ds, _ => by cases ds <;> rfl
  | k0 :: ks, [], e => by cases e
  | k0 :: ks, d :: ds, e => by
    have ih := mAt_mem k (ks := ks) (ds := ds) (by simpa using e)
    unfold mAt mHas
    rw [List.any_cons]
    by_cases q : k = k0
    · rw [if_pos q, decide_eq_true q.symm]; rfl
    · rw [if_neg q, decide_eq_false (fun z => q z.symm), ih]; rfl
theorem has_zip (k : L2.Key) : ∀ {ks : List L2.Key} {ys : List V}, ks.length = ys.length → ((ks.zip ys).any fun kv => decide (kv.1 = k)) = mHas ks k
  | [], _, _ => rfl
  | k0 :: ks, [], e => by cases e
  | k0 :: ks, y :: ys, e => by
    unfold mHas
    rw [List.zip_cons_cons, List.any_cons, List.any_cons, has_zip k (by simpa using e)]
    rfl
theorem re_zip {K : PySem.W.Frag} {H : Hp} (k : L2.Key) {v : V} {d : D} (hv : Dq K H v d) : ∀ {ks : List L2.Key} {ys : List V} {ds : List D}, ks.length = ys.length → DqAll K H ys ds →
    ∃ ys', (ks.zip ys).map (fun kv => if kv.1 = k then (kv.1, v) else kv) = ks.zip ys' ∧ ks.length = ys'.length ∧ DqAll K H ys' (mRe k d ks ds)
  | [], ys, ds, e, h => by
    refine ⟨[], ?_, rfl, ?_⟩
    · cases ys <;> rfl
    · cases ds <;> exact .nil
  | k0 :: ks, [], _, e, _ => by cases e
  | k0 :: ks, y :: ys, ds, e, h => by
    cases h with
    | @cons _ _ d0 ds h t =>
      obtain ⟨ys', h1, h2, h3⟩ := re_zip (K := K) (H := H) k hv (ks := ks) (ys := ys) (ds := ds) (by simpa using e) t
      refine ⟨(if k0 = k then v else y) :: ys', ?_, by rw [List.length_cons, List.length_cons, h2], ?_⟩
      · rw [List.zip_cons_cons, List.map_cons, h1, List.zip_cons_cons]
        by_cases q : k0 = k
        · rw [if_pos q, if_pos q]
        · rw [if_neg q, if_neg q]
      · unfold mRe
        by_cases q : k0 = k
        · rw [if_pos q, if_pos q]; exact .cons hv h3
        · rw [if_neg q, if_neg q]; exact .cons h h3
theorem put_zip {K : PySem.W.Frag} {H : Hp} (k : L2.Key) {v : V} {d : D} (hv : Dq K H v d) {ks : List L2.Key} {ys : List V} {ds : List D} (e : ks.length = ys.length) (h : DqAll K H ys ds) :
    ∃ ys', putK (ks.zip ys) k v = (mKs ks k).zip ys' ∧ (mKs ks k).length = ys'.length ∧ DqAll K H ys' (mDs ks ds k d) := by
  have hz := has_zip k e
  unfold mKs mDs
  cases q : mHas ks k with
  | true =>
    rw [if_pos rfl, if_pos rfl]
    obtain ⟨ys', h1, h2, h3⟩ := re_zip (K := K) (H := H) k hv e h
    refine ⟨ys', ?_, h2, h3⟩
    unfold putK
    rw [hz, q, if_pos rfl]
    exact h1
  | false =>
    rw [if_neg (by simp), if_neg (by simp)]
    refine ⟨ys ++ [v], ?_, by rw [List.length_append, List.length_append, e]; rfl, dpa_app h (dpa_one hv)⟩
    unfold putK
    rw [hz, q, if_neg (by simp), List.zip_append e]
    rfl
theorem isTs_re (k : L2.Key) {d : D} (h : isT d = true) : ∀ (ks : List L2.Key) {ds : List D}, isTs ds = true → isTs (mRe k d ks ds) = true
  | [], ds, _ => by cases ds <;> rfl
  | k0 :: ks, [], _ => rfl
  | k0 :: ks, d0 :: ds, h' => by
    have w : (isT d0 && isTs ds) = true := h'
    obtain ⟨w1, w2⟩ := Bool.and_eq_true_iff.mp w
    unfold mRe
    refine Bool.and_eq_true_iff.mpr ⟨?_, isTs_re k h ks w2⟩
    split
    · exact h
    · exact w1
theorem isTs_mds {ks : List L2.Key} {ds : List D} {k : L2.Key} {d : D} (h : isT d = true) (h' : isTs ds = true) : isTs (mDs ks ds k d) = true := by
  unfold mDs
  split
  · exact isTs_re k h ks h'
  · exact isTs_app h' (isTs_one h)
section
variable {X : Cx} {J : Jr} {e a b c : Expr} {es : List Expr} {pos : Pos}
/-- e in jar[k], e not in jar[k] -/
def qJin (i k : Nat) (g : Bool → Bool) (qe : QD) : QR := fun ρ P => qe ρ fun d ρ1 => jPart ρ1 i k fun _ e => ∃ ks ds kk, e = .m ks ds ∧ keyD d = some kk ∧ P (.da (.bool (g (mHas ks kk)))) ρ1
theorem jin_ready {K : PySem.W.Frag} {n : En} {σ : L2.St} {H1 H01 : Hp} {ρ1 : List Sl} {i k : Nat} {v : V} {d : D} {Q : Sl → List Sl → Prop} {g : Bool → Bool} (R1 : Rp K J n σ H1 H01 ρ1) (hd : Dq K H01 v d)
    (w : jPart ρ1 i k fun _ e => ∃ ks ds kk, e = .m ks ds ∧ keyD d = some kk ∧ Q (.da (.bool (g (mHas ks kk)))) ρ1) : ∃ j xs u b o, σ[i]? = some (some (.ref j)) ∧ H1 j = some (.lst xs) ∧ xs[k]? = some u ∧ u = .ref b ∧ DGet H1 b v o ∧ Q (.da (.bool (g o.isSome))) ρ1 := by
  obtain ⟨c, e0, g1, g2, g3, ks, ds, kk, rfl, hk, hp⟩ := w.of
  obtain ⟨j, xs, bs, x, q1, q2, q3, q4, q5, q6, q7, b, ys, rfl, hb, f1, f0, f2, f3⟩ := R1.jpart g1 g3 g2
  have ev := keyD_v hd hk
  subst ev
  refine ⟨j, xs, _, b, valV (ks.zip ys) kk, q1, q4, q7, rfl, DGet.k f1, ?_⟩
  rw [← valV_any, has_zip kk f0]
  exact hp
theorem pr_jin {o : Expr} {i k : Nat} {z : Int} {j : Nat} {p1 p2 : Pos} {qe : QD} (hu : X.A.units + 64 < cLine) (ho : PE X o (tVar i)) (hz : z = (k : Int)) (he : PD J X e qe) (h1 : behindInMarks .In (.Subscript o (.Constant (.int z) j p1) p2) = false := by rfl) :
    PR J X (.Compare e [.In] [.Subscript o (.Constant (.int z) j p1) p2] pos) (qJin i k (fun b => b) qe) :=
  pe_mono (pe_cmp (pc_din (by omega) he (pe_in ho hz)) h1) fun σ H Q ⟨n, H0, ρ, P, R, w, kk⟩ => ⟨n, H0, ρ, _, R, w, fun v H1 H01 d ρ1 R1 S1 hd w1 => by
    obtain ⟨j, xs, u, b, o, q1, q2, q3, q4, q5, q6⟩ := jin_ready (g := fun b => b) R1 hd w1
    exact ⟨j, xs, u, q1, q2, q3, b, o, q4, q5, kk _ H1 H01 (.da (.bool o.isSome)) ρ1 R1 S1 (Dq.bl _) q6⟩⟩
theorem pr_jnotin {o : Expr} {i k : Nat} {z : Int} {j : Nat} {p1 p2 : Pos} {qe : QD} (hu : X.A.units + 64 < cLine) (ho : PE X o (tVar i)) (hz : z = (k : Int)) (he : PD J X e qe) (h1 : behindInMarks .NotIn (.Subscript o (.Constant (.int z) j p1) p2) = false := by rfl) :
    PR J X (.Compare e [.NotIn] [.Subscript o (.Constant (.int z) j p1) p2] pos) (qJin i k (fun b => !b) qe) :=
  pe_mono (pe_cmp (pc_dnotin (by omega) he (pe_in ho hz)) h1) fun σ H Q ⟨n, H0, ρ, P, R, w, kk⟩ => ⟨n, H0, ρ, _, R, w, fun v H1 H01 d ρ1 R1 S1 hd w1 => by
    obtain ⟨j, xs, u, b, o, q1, q2, q3, q4, q5, q6⟩ := jin_ready (g := fun b => !b) R1 hd w1
    exact ⟨j, xs, u, q1, q2, q3, b, o, q4, q5, kk _ H1 H01 (.da (.bool (!o.isSome))) ρ1 R1 S1 (Dq.bl _) q6⟩⟩
theorem tb_tst {q : QR} {t : TE} (hm : ∀ σ H Q, tR X.K J q σ H Q → t σ H Q) : ∀ σ H Q, tT X.K J (qTst q) σ H Q → tB t σ H Q := fun σ H Q ⟨n, H0, ρ, P, R, w, k⟩ => by
  refine hm σ H _ ⟨n, H0, ρ, _, R, w, fun v H' H0' s ρ' R' S' hs hp => ?_⟩
  cases s with
  | da d =>
    cases d with
    | bool b =>
      have e := dp_bool hs
      subst e
      exact ⟨b, rfl, k b H' H0' ρ' R' S' hp⟩
    | _ => exact hp.elim
  | _ => exact hp.elim
theorem pb_jin {o : Expr} {i k : Nat} {z : Int} {j : Nat} {p1 p2 : Pos} {qe : QD} (hu : X.A.units + 64 < cLine) (ho : PE X o (tVar i)) (hz : z = (k : Int)) (he : PD J X e qe) (h1 : behindInMarks .In (.Subscript o (.Constant (.int z) j p1) p2) = false := by rfl) :
    PB J X (.Compare e [.In] [.Subscript o (.Constant (.int z) j p1) p2] pos) (qTst (qJin i k (fun b => b) qe)) :=
  pt_mono (pt_cmp (pc_din (by omega) he (pe_in ho hz)) h1) (tb_tst fun σ H Q ⟨n, H0, ρ, P, R, w, kk⟩ => ⟨n, H0, ρ, _, R, w, fun v H1 H01 d ρ1 R1 S1 hd w1 => by
    obtain ⟨j, xs, u, b, o, q1, q2, q3, q4, q5, q6⟩ := jin_ready (g := fun b => b) R1 hd w1
    exact ⟨j, xs, u, q1, q2, q3, b, o, q4, q5, kk _ H1 H01 (.da (.bool o.isSome)) ρ1 R1 S1 (Dq.bl _) q6⟩⟩)
theorem pb_jnotin {o : Expr} {i k : Nat} {z : Int} {j : Nat} {p1 p2 : Pos} {qe : QD} (hu : X.A.units + 64 < cLine) (ho : PE X o (tVar i)) (hz : z = (k : Int)) (he : PD J X e qe) (h1 : behindInMarks .NotIn (.Subscript o (.Constant (.int z) j p1) p2) = false := by rfl) :
    PB J X (.Compare e [.NotIn] [.Subscript o (.Constant (.int z) j p1) p2] pos) (qTst (qJin i k (fun b => !b) qe)) :=
  pt_mono (pt_cmp (pc_dnotin (by omega) he (pe_in ho hz)) h1) (tb_tst fun σ H Q ⟨n, H0, ρ, P, R, w, kk⟩ => ⟨n, H0, ρ, _, R, w, fun v H1 H01 d ρ1 R1 S1 hd w1 => by
    obtain ⟨j, xs, u, b, o, q1, q2, q3, q4, q5, q6⟩ := jin_ready (g := fun b => !b) R1 hd w1
    exact ⟨j, xs, u, q1, q2, q3, b, o, q4, q5, kk _ H1 H01 (.da (.bool (!o.isSome))) ρ1 R1 S1 (Dq.bl _) q6⟩⟩)
/-- jar[k][e1] = e, jar[k] a dict -/
def qJmput (i k : Nat) (qe qi : QD) : QS := fun E ρ => qe ρ fun d ρ1 => jPart ρ1 i k fun c e => ∃ ks ds, e = .m ks ds ∧ qi ρ1 fun kd ρ2 => ρ2[i]? = some (.jo c) ∧ ∃ kk, keyD kd = some kk ∧ isT d = true ∧ ks.length < sizeLine ∧ E.nx (ρ2.set i (.jo (c.put k (.m (mKs ks kk) (mDs ks ds kk d)))))
theorem psd_jmput {i k : Nat} {qe qi : QD} {o ix : Expr} {z : Int} {j : Nat} {p0 p1 p2 : Pos} (hu : X.A.units + 64 < cLine) (jo : JOpen X.K J) (ho : PE X o (tVar i)) (hz' : z = (k : Int)) (hi : PD J X ix qi) (he : PD J X e qe)
    (hs : swapsWith e (some (.Subscript (.Subscript o (.Constant (.int z) j p1) p0) ix p2)) pos.line X.env = pure false := by rfl) : PSd J X (.Assign [.Subscript (.Subscript o (.Constant (.int z) j p1) p0) ix p2] e pos) (qJmput i k qe qi) :=
  ps_mono (ps_dput (by omega) (pe_in ho hz') hi he hs) fun D σ H ⟨n, H0, ρ, E, R, w, kk, _⟩ => ⟨n, H0, ρ, _, R, w, fun v H1 H01 d ρ1 R1 S1 hd w1 => by
    obtain ⟨c, e0, g1, g2, g3, ks, ds, rfl, w2⟩ := w1.of
    obtain ⟨j, xs, b, ys, q1, q2, q3, q4, q0, q5, q6, q7, _⟩ := R1.jdict jo (ks' := ks) (ds' := ds) g1 g3 g2
    refine ⟨j, xs, .ref b, q1, q2, q3, n, H01, ρ1, _, R1, w2, fun u H2 H02 kd ρ2 R2 S2 hk ⟨u1, key, u2, u3, ul, u4⟩ => ?_⟩
    obtain ⟨j', xs', b', ys', r1, r2, r3, r4, r0, r5, r6, _, r8⟩ := R2.jdict jo (ks' := mKs ks key) (ds' := mDs ks ds key d) u1 g3 g2
    have eb : b = b' := by
      have := (q7 H2 H02 ρ2 R2 u1 j' xs' r1 r2).symm.trans r3
      cases this
      rfl
    subst eb
    have ev := keyD_v hk u2
    subst ev
    obtain ⟨ys2, h1, h2, h3⟩ := put_zip key (dp_mono R2.sub _ _ (dp_mono S2 d v hd)) r0 r5
    refine ⟨b, _, rfl, DPut.k r4 (by rw [List.length_zip, ← r0, Nat.min_self]; exact ul), ?_⟩
    rw [h1]
    exact kk σ _ H02 _ (r8 ys2 h2 h3 (isTs_mds u3 r6)) (S1.trans S2) u4⟩
/-- a, b = jar[k][e], a pair of flat data -/
def qJun2 (i k : Nat) (qe : QD) (x y : Nat) : QS := fun E ρ => jPart ρ i k fun c e => ∃ ks ds, e = .m ks ds ∧ qe ρ fun d ρ1 => ρ1[i]? = some (.jo c) ∧ ∃ kk d1 d2, keyD d = some kk ∧ mAt ks ds kk = some (.tuple [d1, d2]) ∧ flatD d1 = true ∧ flatD d2 = true ∧ E.nx ((ρ1.set x (.da d1)).set y (.da d2))
theorem psd_jun2 {i k x y : Nat} {qe : QD} {o : Expr} {z : Int} {j kx : Nat} {p0 p1 p2 p3 : Pos} {ex ey : Expr} (hc : X.calm = true) (hu : X.A.units + 64 < cLine) (jo : JOpen X.K J) (ho : PE X o (tVar i)) (hz' : z = (k : Int)) (hi : PD J X e qe) (hsl : NoSl e) (hx : PG X ex (gName x)) (hy : PG X ey (gName y))
    (hs : swapsWithSole [.Tuple [ex, ey] kx p3] (.Subscript (.Subscript o (.Constant (.int z) j p1) p0) e p2) pos.line X.env = pure false := by rfl) (hw : swappedStores [.Tuple [ex, ey] kx p3] (.Subscript (.Subscript o (.Constant (.int z) j p1) p0) e p2) X.env = pure none := by rfl)
    (h1 : (assignEach [.Tuple [ex, ey] kx p3] X.env).map (·.2) = [assign (.Tuple [ex, ey] kx p3) X.env] := by rfl) (hn : (assignEach [ex, ey] X.env).length = 2 := by rfl) (hst : (assignEach [ex, ey] X.env).findIdx? (·.1) = none := by rfl)
    (ha : (assignEach [ex, ey] X.env).map (·.2) = assign ex X.env :: (assignEach [ey] X.env).map (·.2) := by rfl) (hb : (assignEach [ey] X.env).map (·.2) = assign ey X.env :: (assignEach [] X.env).map (·.2) := by rfl) :
    PSd J X (.Assign [.Tuple [ex, ey] kx p3] (.Subscript (.Subscript o (.Constant (.int z) j p1) p0) e p2) pos) (qJun2 i k qe x y) :=
  ps_mono (ps_asg (pe_dget (by omega) (pe_in ho hz') hi hsl) (pg_tup hc (pgs_cons hx (pgs_cons hy pgs_nil hb) ha) hn hst) hs hw h1) fun D σ H ⟨n, H0, ρ, E, R, w, kk, _⟩ => by
    obtain ⟨c, e0, g1, g2, g3, ks, ds, rfl, w2⟩ := w.of
    obtain ⟨j, xs, b, ys, q1, q2, q3, q4, q0, q5, q6, q7, _⟩ := R.jdict jo (ks' := ks) (ds' := ds) g1 g3 g2
    refine ⟨j, xs, .ref b, q1, q2, q3, n, H0, ρ, _, R, w2, fun v H2 H02 d ρ2 R2 S2 hd ⟨u1, key, d1, d2, u2, u3, u4, u5, u6⟩ => ?_⟩
    obtain ⟨j', xs', b', ys', r1, r2, r3, r4, r0, r5, r6, _, r8⟩ := R2.jdict jo (ks' := ks) (ds' := ds) u1 g3 g2
    have eb : b = b' := by
      have := (q7 H2 H02 ρ2 R2 u1 j' xs' r1 r2).symm.trans r3
      cases this
      rfl
    subst eb
    have ev := keyD_v hd u2
    subst ev
    have hv := valV_zip (K := X.K) (H := H2) key r0 r5
    rw [u3] at hv
    obtain ⟨v', hv1, hv2⟩ := hv
    obtain ⟨t, ws, rfl, ht, hws⟩ := dp_tup hv2
    have hg := DGet.k (k := key) r4
    rw [hv1] at hg
    cases hws with
    | @cons w1 _ _ _ a1 hws =>
      cases hws with
      | @cons w2 _ _ _ a2 hws =>
        cases hws
        refine ⟨b, .ref t, rfl, hg, t, _, rfl, ht, rfl, w1, _, rfl, w2, _, rfl, rfl, ?_⟩
        exact kk _ H2 H02 _ ((R2.set_da (flat_any a1 u4)).set_da (flat_any a2 u5)) S2 u6
end
end Zd

set_option Elab.async false
set_option linter.all false
set_option maxRecDepth 100000
set_option maxHeartbeats 4000000
/-! a list takes up a row of any make -/
namespace PySem
open AutoSeq1
theorem zd_extendT (l : Addr) (its : Array Value) (k : Nat) (b : Addr) (od : Option Addr) (sl : Array (Option Value)) (jts : Array Value) (k2 : Nat) (h0 : ¬(!its.isEmpty && Builtin.List.listTooLong (its.size + jts.size)) = true) (h1 : its.size ≤ sizeLine) (h2 : its.size + jts.size ≤ sizeLine + 1) :
    Meets (Builtin.«list.extend» ⟨[.ref l, .ref b], []⟩) (fun _ R s => s.heap.get? l = some { cls := .type "list", dict := none, data := .seq its k, slots := #[] } ∧ s.heap.get? b = some ⟨.type "tuple", od, .seq jts k2, sl⟩ ∧ R (.ok (.ret Value.none)) { s with heap := s.heap.update l (Obj.mapSeq fun x => x ++ jts), toks := s.toks }) :=
  .of_wp fun prog w A R s h => by
    obtain ⟨hp, g, d, tk, os⟩ := s
    obtain ⟨gl, gb, q⟩ := h
    have a1 := idx_int
    have a2 := sub_tuple_tuple
    have a3 := sub_list_list
    have a4 := sub_tuple_list
    have a5 := sub_list_tuple
    have sz : (its ++ jts).size ≤ sizeLine + 1 := by rw [Array.size_append]; exact h2
    wp_walk using (wpAny_updateSeq gl rfl (hz := h1) (_hz' := sz)), wpAny_loadPart' gl, wpAny_loadPart' gb
    exact ⟨_, rfl, q⟩
end PySem
namespace Zd
open PySem PySem.Spec PyProof.Rows L2
def rExtT (K : PySem.W.Frag) : V → List V → Hp → VK → Prop := fun x vs H Q => ∃ l b xs zs, x = .ref l ∧ vs = [.ref b] ∧ H l = some (.lst xs) ∧ SqT K H b zs ∧ xs.length + zs.length ≤ sizeLine ∧ Q .non (upd H l (.lst (xs ++ zs)))
theorem mt_extT {X : Cx} : MtM X "list.extend" (rExtT X.K) := by
  intro pins s σ H x vs v us Q I rx rv h
  obtain ⟨l, b, xs, zs, rfl, rfl, hH, hB, hz, q⟩ := h
  cases rx
  obtain ⟨u, rfl, ru⟩ := rv.one
  cases ru
  obtain ⟨z, its, n, r, hl, e⟩ := I.lstM hH
  obtain ⟨its2, r2, ⟨o2, e2, c2, n2, d2⟩, hl2⟩ := I.tuple hB
  have hlen2 := r2.length
  have hsz : its.toArray.size + its2.toArray.size ≤ sizeLine := by rw [List.size_toArray, List.size_toArray]; omega
  have hlong : ¬ (!its.toArray.isEmpty && Builtin.List.listTooLong (its.toArray.size + its2.toArray.size)) = true := by
    rw [notLongL hsz, Bool.and_false]
    exact Bool.false_ne_true
  obtain ⟨c, od, dt, sl⟩ := o2
  have c2 : c = .type "tuple" := c2
  have d2 : dt = .seq its2.toArray n2 := d2
  subst c2 d2
  refine call_meets F.slot_list_extend ⟨_, e, rfl⟩ F.entry_list_extend (F.args_list_extend_2 _ _)
    (zd_extendT l its.toArray n b od sl its2.toArray n2 hlong (by rw [List.size_toArray]; omega) (by omega)) ⟨e, e2, ?_⟩
  refine ⟨.non, _, I.lset (its' := its ++ its2) hH e (by simp) (r.append r2) ?_, rfl, q⟩
  rw [List.length_append]
  omega
section
variable {X : Cx} {J : Jr} {e a b c tg : Expr} {es : List Expr} {pos : Pos}
/-- extend by a tuple -/
def qExtT (i : Nat) (qa : QD) : QR := fun ρ P => (∃ ds, ρ[i]? = some (.ow ds)) ∧ qa ρ fun d ρ' => match d with
  | .tuple es => (match ρ'[i]? with
    | some (.ow ds) => ds.length + es.length ≤ sizeLine ∧ P (.da .none) (ρ'.set i (.ow (ds ++ es)))
    | _ => False)
  | _ => False
theorem pr_extT {i : Nat} {qa : QD} {o : Expr} {apos : Pos} (ho : PE X o (tVar i)) (ha : PD J X e qa)
    (hbase : attributeBase o "extend" X.env (eval o X.env) = eval o X.env := by rfl)
    (hfew : ((backTo pos (starEach [e] X.env)).all (fun x => !x.1) && (backToKw pos (keywordEach [] X.env)).all (fun x => x.1.isSome) && decide ([e].length + ([] : List Keyword).length + (if ([] : List Keyword).isEmpty then 0 else 1) < 30)) = true := by rfl)
    (hline : (apos.endLine == pos.line) = true := by rfl) (hs : starEach [e] X.env = (false, eval e X.env) :: starEach [] X.env := by rfl) (hplain : (backTo pos (starEach [] X.env)).any (·.1) = false := by rfl) :
    PR J X (.Call (.Attribute o "extend" apos) [e] [] pos) (qExtT i qa) :=
  pe_mono (pe_bm PySem.F.plainAttrs_list PySem.F.slot_list_extend PySem.F.type_list_extend mt_extT ho (pa_cons ha pa_nil hs) hbase hfew hline hs hplain) fun σ H Q ⟨n, H0, ρ, P, R, ⟨⟨ds, e⟩, w⟩, k⟩ => by
    obtain ⟨a, xs, h1, h2, h3, h4, h5⟩ := R.sl i _ e
    refine ⟨_, h1, .inl ⟨rfl, xs, SqL.of h2⟩, n, H0, ρ, _, R, w, fun v H1 H01 d ρ1 R1 S1 hd w1 => ?_⟩
    cases d with
    | tuple cs =>
      obtain ⟨b, zs, rfl, z1, z2⟩ := dp_tup hd
      cases e1 : ρ1[i]? with
      | none =>
        have w2 : (match ρ1[i]? with | some (.ow ds) => _ | _ => False) := w1
        rw [e1] at w2
        exact w2.elim
      | some s =>
        have w2 : (match ρ1[i]? with | some (.ow ds) => ds.length + cs.length ≤ sizeLine ∧ P (.da .none) (ρ1.set i (.ow (ds ++ cs))) | _ => False) := w1
        rw [e1] at w2
        cases s with
        | ow es =>
          obtain ⟨b', ys, g1, g2, g3, g4, g5⟩ := R1.sl i _ e1
          rw [h1] at g1
          cases g1
          have hx := dpa_app g3 z2
          exact ⟨a, b, ys, zs, rfl, rfl, g2, same_t R1.sub z1, by rw [dpa_len g3, dpa_len z2]; exact w2.1, k _ _ H01 (.da .none) _ (R1.own_put e1 h1 hx) S1 .non w2.2⟩
        | _ => exact w2.elim
    | _ => exact w1.elim
/-! ### any, all, sum of a list -/
def boolsD : List D → Option (List Bool)
  | [] => some []
  | .bool b :: r => (boolsD r).map (b :: ·)
  | _ => none
def intsD : List D → Option (List Int)
  | [] => some []
  | .int b :: r => (intsD r).map (b :: ·)
  | _ => none
theorem bools_v {K : PySem.W.Frag} {H : Hp} : ∀ {ds : List D} {xs : List V} {bs : List Bool}, DqAll K H xs ds → boolsD ds = some bs → xs = bs.map V.bl
  | [], _, _, h, e => by cases h; cases e; rfl
  | .bool b :: r, _, bs, h, e => by
    cases h with
    | cons h1 h2 =>
      unfold boolsD at e
      cases z : boolsD r with
      | none => rw [z] at e; cases e
      | some cs =>
        rw [z] at e
        cases e
        rw [dp_bool h1, bools_v h2 z]
        rfl
  | .none :: _, _, _, _, e => by cases e
  | .int _ :: _, _, _, _, e => by cases e
  | .str _ :: _, _, _, _, e => by cases e
  | .list _ :: _, _, _, _, e => by cases e
  | .tuple _ :: _, _, _, _, e => by cases e
  | .dict _ :: _, _, _, _, e => by cases e
theorem ints_v {K : PySem.W.Frag} {H : Hp} : ∀ {ds : List D} {xs : List V} {bs : List Int}, DqAll K H xs ds → intsD ds = some bs → xs = bs.map V.int
  | [], _, _, h, e => by cases h; cases e; rfl
  | .int b :: r, _, bs, h, e => by
    cases h with
    | cons h1 h2 =>
      unfold intsD at e
      cases z : intsD r with
      | none => rw [z] at e; cases e
      | some cs =>
        rw [z] at e
        cases e
        rw [dp_int h1, ints_v h2 z]
        rfl
  | .none :: _, _, _, _, e => by cases e
  | .bool _ :: _, _, _, _, e => by cases e
  | .str _ :: _, _, _, _, e => by cases e
  | .list _ :: _, _, _, _, e => by cases e
  | .tuple _ :: _, _, _, _, e => by cases e
  | .dict _ :: _, _, _, _, e => by cases e
theorem boolsD_map (bs : List Bool) : boolsD (bs.map PyData.bool) = some bs := by
  induction bs with
  | nil => rfl
  | cons b r ih =>
    rw [List.map_cons]
    unfold boolsD
    rw [ih]
    rfl
theorem intsD_map (bs : List Int) : intsD (bs.map PyData.int) = some bs := by
  induction bs with
  | nil => rfl
  | cons b r ih =>
    rw [List.map_cons]
    unfold intsD
    rw [ih]
    rfl
def cAny : DCl := fun ds P => match ds with
  | [.list x] => ∃ bs, boolsD x = some bs ∧ P (.da (.bool (bs.any id)))
  | _ => False
def cAll : DCl := fun ds P => match ds with
  | [.list x] => ∃ bs, boolsD x = some bs ∧ P (.da (.bool (bs.all id)))
  | _ => False
def cSum : DCl := fun ds P => match ds with
  | [.list x] => ∃ bs, intsD x = some bs ∧ P (.da (.int bs.sum))
  | _ => False
theorem cl_any (hc : X.calm = true) : DclOk J X (.builtin "any") cAny := ⟨_, cr_any hc, fun n σ H H0 ρ vs ds P Q R hp w k => by
  match ds, w with
  | [.list x], ⟨bs, e, w⟩ =>
    obtain ⟨v, rfl, h⟩ := paired1 hp
    obtain ⟨p, xs, rfl, s1, m1⟩ := h.lst R.sub
    have ex := bools_v m1 e
    subst ex
    exact ⟨p, bs, rfl, s1, here k R (Dq.bl _) w⟩⟩
theorem cl_all (hc : X.calm = true) : DclOk J X (.builtin "all") cAll := ⟨_, cr_all hc, fun n σ H H0 ρ vs ds P Q R hp w k => by
  match ds, w with
  | [.list x], ⟨bs, e, w⟩ =>
    obtain ⟨v, rfl, h⟩ := paired1 hp
    obtain ⟨p, xs, rfl, s1, m1⟩ := h.lst R.sub
    have ex := bools_v m1 e
    subst ex
    exact ⟨p, bs, rfl, s1, here k R (Dq.bl _) w⟩⟩
theorem cl_sum (hc : X.calm = true) : DclOk J X (.builtin "sum") cSum := ⟨_, cr_sum hc, fun n σ H H0 ρ vs ds P Q R hp w k => by
  match ds, w with
  | [.list x], ⟨bs, e, w⟩ =>
    obtain ⟨v, rfl, h⟩ := paired1 hp
    obtain ⟨p, xs, rfl, s1, m1⟩ := h.lst R.sub
    have ex := ints_v m1 e
    subst ex
    exact ⟨p, bs, rfl, s1, here k R (Dq.int _) w⟩⟩
/-- sorted of a list of texts, fewer than 64 -/
def cSortS : DCl := fun ds P => match ds with
  | [.list x] => ∃ ys, strsD x = some ys ∧ ys.length < 64 ∧ ∀ zs : List Str, zs.Perm ys → sortedS zs = true → P (.ow (zs.map .str))
  | _ => False
theorem dqa_strs {K : PySem.W.Frag} {H : Hp} : ∀ (zs : List Str), DqAll K H (zs.map V.str) (zs.map PyData.str)
  | [] => .nil
  | z :: zs => .cons (.str z) (dqa_strs zs)
theorem cl_sortS : DclOk J X (.builtin "sorted") cSortS := ⟨_, cr_sortedS, fun n σ H H0 ρ vs ds P Q R hp w k => by
  match ds, w with
  | [.list x], ⟨ys, e, hl, w⟩ =>
    obtain ⟨v, rfl, h⟩ := paired1 hp
    obtain ⟨p, xs, rfl, s1, m1⟩ := h.lst R.sub
    have ex := strs_v m1 e
    subst ex
    refine ⟨p, ys, rfl, s1, hl, fun zs q h1 h2 hq => ?_⟩
    obtain ⟨r1, r2⟩ := R.newL hq (dqa_strs (K := X.K) (H := H0) zs)
    exact k _ _ _ _ r1 (.refl _) r2 (w zs h1 h2)⟩
/-! ### range with a step; a call without arguments -/
def rangeC (c : Int) : Int → Nat → List D
  | _, 0 => []
  | lo, n + 1 => .int lo :: rangeC c (lo + c) n
theorem rangeC_len (c : Int) : ∀ (n : Nat) (lo : Int), (rangeC c lo n).length = n
  | 0, _ => rfl
  | n + 1, lo => by unfold rangeC; rw [List.length_cons, rangeC_len c n]
theorem rangeC_get (c : Int) : ∀ (n i : Nat) (lo : Int), i < n → (rangeC c lo n)[i]? = some (.int (lo + i * c))
  | 0, _, _, h => absurd h (Nat.not_lt_zero _)
  | n + 1, 0, lo, _ => by
    show some (PyData.int lo) = some (.int (lo + (0 : Nat) * c))
    rw [Int.natCast_zero, Int.zero_mul, Int.add_zero]
  | n + 1, i + 1, lo, h => by
    show (rangeC c (lo + c) n)[i]? = _
    rw [rangeC_get c n i (lo + c) (by omega)]
    have q : lo + c + (i : Int) * c = lo + ((i + 1 : Nat) : Int) * c := by
      rw [Int.natCast_add, Int.add_mul]
      omega
    rw [q]
theorem it_rangeC {K : PySem.W.Frag} {H0 : Hp} {lo c : Int} {n : Nat} : ItOk K (Itc lo c n) H0 (rangeC c lo n) := by
  refine ⟨fun i Hc S hi => ?_, fun i Hc S hi => ?_, fun i Hc H0c x H' d S1 S2 hi hy => ?_⟩
  · rw [rangeC_len] at hi; exact hi
  · rw [rangeC_len] at hi; exact hi
  · obtain ⟨rfl, rfl⟩ := hy
    have l : i < n := by
      have := (List.getElem?_eq_some_iff.mp hi).1
      rw [rangeC_len] at this
      exact this
    rw [rangeC_get c n i lo l] at hi
    cases hi
    exact .inl ⟨rfl, .int _⟩
def qRng3 (q : QL) : QL := fun ρ P => q ρ fun ds ρ' => ∃ i j c n, ds = [.int i, .int j, .int c] ∧ RgC i j c n ∧ P (rangeC c i n) ρ'
theorem pit_r3 {q : QL} {p : Pos} (hg : Gl X "range") (hm : X.mg "range" = none) (ha : PL J X [a, b, c] 3 q) (hs : starEach [a, b, c] X.env = (false, eval a X.env) :: starEach [b, c] X.env := by rfl) (hpl : (backTo pos (starEach [b, c] X.env)).any (·.1) = false := by rfl) :
    PIt J X tg (.Call (.Name "range" p) [a, b, c] [] pos) (qRng3 q) :=
  pi_mono (pi_range3 hg hm ha hs hpl) fun σ H R ⟨n, H0, ρ, P, Rr, w, k⟩ => ⟨n, H0, ρ, _, Rr, w, fun vs H' H0' ds ρ' R' S' hd hl ⟨i, j, c, m, e1, h1, hp⟩ => by
    subst e1
    cases hd with
    | cons q1 q2 =>
      cases q2 with
      | cons q3 q4 =>
        cases q4 with
        | cons q5 q6 =>
          cases q6
          cases q1
          cases q3
          cases q5
          exact ⟨i, j, c, m, rfl, h1, k _ H' H0' _ ρ' R' S' it_rangeC hp⟩⟩
theorem nil_tA {K : PySem.W.Frag} : ∀ σ H Q, tA K J qaNil σ H Q → tNil σ H Q := fun σ H Q ⟨n, H0, ρ, P, R, w, k⟩ => k [] H H0 [] ρ R (.refl _) .nil w
theorem pr_call0C {pp : PPr} {k k' : Nat} {ps : List Str} {x : Str} {st : Stmt} {p : Pos} (C : CalD X.prog X.w X.K X.mg X.base J k x st ps pp) (hr : Room k' X.A) (hk : k ≤ k') (hg : Gl X x)
    (hdb : (x == ("__debug__" : Str)) = false := by decide) : PR J X (.Call (.Name x p) [] [] pos) (qCall pp qaNil) := by
  obtain ⟨f, fd, F, hm, G, hb⟩ := C.ex
  refine pe_mono (pe_call0 F (hr.mono hk) hg hm G.kp hb .nil pass0 hdb) fun σ H Q z => ?_
  have z2 := call_mono C.nj σ H Q z
  exact nil_tA σ H _ z2
end
end Zd

set_option Elab.async false
set_option linter.all false
set_option maxRecDepth 100000
set_option maxHeartbeats 4000000
namespace Zd
open PySem PySem.Spec PyProof.Rows L2
/-! ### zip of two: texts, tuples, lists of data -/
/-- one side of a zip: its iterator's own cell, what must stand, what it draws -/
structure Hlf (P : Program) (w : World) (K : PySem.W.Frag) (it : Addr) (own : Nat → Heap → Prop) (nu : List Addr) (m : Nat) (src : Hp → Prop) (Y : Nat → V → Prop) : Prop where
  obj : ∀ i h, own i h → ∃ o, h.get? it = some o ∧ ∀ v, o.data ≠ .cell v
  keep : ∀ i h h', own i h → (∀ o, h.get? it = some o → h'.get? it = some o) → own i h'
  draw : ∀ (X : Cx), X.prog = P → X.w = w → X.K = K → X.calm = true → ∀ (pins : List (Addr × Obj)) (σ : L2.St) (H : Hp) (s : Shared) (i : Nat), Inv X pins σ H s → own i s.heap → src H →
    ∃ Pv St, Draws P w X.A.in1 it (it :: nu) m Pv St ∧ St i s.heap ∧ (∀ j h, St j h → own j h) ∧ ∀ v, Pv i v → ∃ x, RelV x v ∧ Y i x
theorem hlf_text {P : Program} {w : World} {K : PySem.W.Frag} (it : Addr) (z : Str) (t : Tok) :
    Hlf P w K it (fun i h => h.IsStrIter it (strIterType z) z t i) [] z.cps.size (fun _ => True) (fun i x => ∃ c, z.cps[i]? = some c ∧ x = .str ⟨#[c]⟩) where
  obj := fun i h st => by
    obtain ⟨o, e, _, d⟩ := st
    exact ⟨o, e, fun v q => by rw [d] at q; cases q⟩
  keep := fun i h h' st k => by
    obtain ⟨o, e, r⟩ := st
    exact ⟨o, k o e, r⟩
  draw := fun X hP hw hK hc pins σ H s i I st _ => by
    subst hP hw hK
    have D : Draws X.prog X.w X.A.in1 it [it] z.cps.size _ _ := Draws.text (A := X.A.in1) (I.ok.hd hc) it z t
    exact ⟨_, _, D, st, fun j h q => q, fun v ⟨c, u, hcc, ev⟩ => ⟨.str ⟨#[c]⟩, ⟨u, ev⟩, c, hcc, rfl⟩⟩
theorem hlf_tup {P : Program} {w : World} {K : PySem.W.Frag} (it a : Addr) (ne : a ≠ it) (xs : List V) :
    Hlf P w K it (fun i h => h.IsTupleIter it a i) [a] xs.length (fun H => SqT K H a xs) (fun i x => xs[i]? = some x) where
  obj := fun i h st => by
    obtain ⟨o, e, _, d⟩ := st
    exact ⟨o, e, fun v q => by rw [d] at q; cases q⟩
  keep := fun i h h' st k => st.at k
  draw := fun X hP hw hK hc pins σ H s i I st hq => by
    subst hP hw hK
    obtain ⟨its, rv, p, _⟩ := I.tuple hq
    have hl := rv.length
    have D : Draws X.prog X.w X.A.in1 it [it, a] its.toArray.size _ _ := Draws.tuple (A := X.A.in1) (I.ok.hd hc) it a ne its.toArray
    rw [List.size_toArray, ← hl] at D
    refine ⟨_, _, D, ⟨st, p⟩, fun j h q => q.1, fun v hv => ?_⟩
    have hv' : its[i]? = some v := by simpa using hv
    have lt : i < xs.length := by rw [hl]; exact (List.getElem?_eq_some_iff.mp hv').1
    obtain ⟨u, hu, ru⟩ := rv.get (List.getElem?_eq_getElem lt)
    rw [hv'] at hu
    cases hu
    exact ⟨_, ru, List.getElem?_eq_getElem lt⟩
theorem hlf_lst {P : Program} {w : World} {K : PySem.W.Frag} (it a : Addr) (ne : a ≠ it) (xs : List V) :
    Hlf P w K it (fun i h => h.IsListIter it a i) [a] xs.length (fun H => SqL K H a xs) (fun i x => xs[i]? = some x) where
  obj := fun i h st => by
    obtain ⟨o, e, _, d⟩ := st
    exact ⟨o, e, fun v q => by rw [d] at q; cases q⟩
  keep := fun i h h' st k => st.at k
  draw := fun X hP hw hK hc pins σ H s i I st hq => by
    subst hP hw hK
    obtain ⟨its, rv, p, _⟩ := I.list hq
    have hl := rv.length
    have D : Draws X.prog X.w X.A.in1 it [it, a] its.toArray.size _ _ := Draws.list (A := X.A.in1) (I.ok.hd hc) it a ne its.toArray
    rw [List.size_toArray, ← hl] at D
    refine ⟨_, _, D, ⟨st, p.isList⟩, fun j h q => q.1, fun v hv => ?_⟩
    have hv' : its[i]? = some v := by simpa using hv
    have lt : i < xs.length := by rw [hl]; exact (List.getElem?_eq_some_iff.mp hv').1
    obtain ⟨u, hu, ru⟩ := rv.get (List.getElem?_eq_getElem lt)
    rw [hv'] at hu
    cases hu
    exact ⟨_, ru, List.getElem?_eq_getElem lt⟩
/-- both sides' items, in new pairs -/
def Itzz (m1 m2 : Nat) (src1 src2 : Hp → Prop) (Y1 Y2 : Nat → V → Prop) : It :=
  ⟨fun i H => src1 H ∧ src2 H ∧ i < m1 ∧ i < m2, fun i H v H' => ∃ T x y, v = .ref T ∧ H T = none ∧ H' = upd H T (.tup [x, y]) ∧ Y1 i x ∧ Y2 i y,
    fun i H => src1 H ∧ src2 H ∧ (m1 ≤ i ∨ m2 ≤ i)⟩
theorem mem5 {c z TI TO i1 i2 : Addr} (h : c ∈ [z, TI, TO, i1, i2]) : c = z ∨ c = TI ∨ c = TO ∨ c = i1 ∨ c = i2 := by simpa using h
theorem turn_zz {P : Program} {w : World} {K : PySem.W.Frag} {elts : List Expr} {kk : Nat} {tpos : Pos} {z TI TO i1 i2 : Addr} {own1 own2 : Nat → Heap → Prop} {nu1 nu2 : List Addr} {m1 m2 : Nat} {src1 src2 : Hp → Prop} {Y1 Y2 : Nat → V → Prop}
    (S : ZipSep2 z TI TO i1 i2 (i1 :: nu1) (i2 :: nu2)) (h1 : Hlf P w K i1 own1 nu1 m1 src1 Y1) (h2 : Hlf P w K i2 own2 nu2 m2 src2 Y2) :
    Turn P w K (.Tuple elts kk tpos) (Itzz m1 m2 src1 src2 Y1 Y2) [z, TI, TO, i1, i2] z
      (fun i h => IsZip h z TI TO .none ∧ IsTupOf2 h TI (.ref i1) (.ref i2) ∧ (∃ x y, IsTupOf2 h TO x y) ∧ own1 i h ∧ own2 i h ∧ i ≤ m1 ∧ i ≤ m2) where
  mem := by simp
  obj := fun i h st c hc => by
    obtain ⟨hz, hTI, ⟨x, y, hTO⟩, e1, e2, _, _⟩ := st
    rcases mem5 hc with q | q | q | q | q
    · rw [q]; exact ⟨_, hz, fun v q => nomatch q⟩
    · rw [q]; exact ⟨_, hTI, fun v q => nomatch q⟩
    · rw [q]; exact ⟨_, hTO, fun v q => nomatch q⟩
    · rw [q]; exact h1.obj i h e1
    · rw [q]; exact h2.obj i h e2
  keep := fun i h h' st k => by
    obtain ⟨hz, hTI, ⟨x, y, hTO⟩, e1, e2, l1, l2⟩ := st
    exact ⟨k z (by simp) _ hz, k TI (by simp) _ hTI, ⟨x, y, k TO (by simp) _ hTO⟩, h1.keep i h h' e1 fun o q => k i1 (by simp) o q, h2.keep i h h' e2 fun o q => k i2 (by simp) o q, l1, l2⟩
  item := by
    intro X hP hw hK hc i pins s σ H E I hf st hg
    obtain ⟨hz, hTI, hTO, e1, e2, l1, l2⟩ := st
    obtain ⟨s1, s2, g1, g2⟩ := hg
    obtain ⟨P1, St1, D1, t1, k1, r1⟩ := h1.draw X hP hw hK hc pins σ H s i I e1 s1
    obtain ⟨P2, St2, D2, t2, k2, r2⟩ := h2.draw X hP hw hK hc pins σ H s i I e2 s2
    subst hP hw hK
    have lt : ∀ c ∈ [z, TI, TO, i1, i2], c < s.heap.objs.size := fun c hcm => by
      obtain ⟨x0, y0, hTO'⟩ := hTO
      rcases mem5 hcm with q | q | q | q | q
      · rw [q]; exact Heap.lt_size hz
      · rw [q]; exact Heap.lt_size hTI
      · rw [q]; exact Heap.lt_size hTO'
      · rw [q]; obtain ⟨_, e, _⟩ := h1.obj _ _ e1; exact Heap.lt_size e
      · rw [q]; obtain ⟨_, e, _⟩ := h2.obj _ _ e2; exact Heap.lt_size e
    have W := WalksT.zipD2 (A := X.A) S D1 D2
    refine W.item i s _ E (by omega) ⟨hz, hTI, hTO, t1, t2⟩ fun T vals h' tk pv hT it mid kp => ?_
    obtain ⟨u, u2, p1, p2, ev⟩ := pv
    subst ev
    obtain ⟨x, ru, y1⟩ := r1 u p1
    obtain ⟨y, ru2, y2⟩ := r2 u2 p2
    have ap := W.apart _ _ _ mid
    refine ⟨_, rfl, W.go elts kk tpos i T { s with heap := h', toks := tk } _ E mid fun h'' st' kp' => ?_⟩
    obtain ⟨hz', hTI', hTO', t1', t2'⟩ := st'
    have hT2 : h''.IsTuple T #[u, u2] := it.at fun o e => kp' T o ap e
    have sub5 : ∀ c, c ∉ [z, TI, TO, i1, i2] → c ∉ [z, TO, i1, i2] := fun c h q => h (by
      have q' : c = z ∨ c = TO ∨ c = i1 ∨ c = i2 := by simpa using q
      rcases q' with q | q | q | q <;> simp [q])
    have new : ObjOk X.prog X.w (upd H T (.tup [x, y])) h'' T (.tup [x, y]) :=
      ⟨by show 2 ≤ sizeLine; decide, [u, u2], .cons ru (.cons ru2 .nil), hT2⟩
    have I1 : Inv X pins σ (upd H T (.tup [x, y])) { s with heap := h'', toks := tk } :=
      I.turnedNew (t' := tk) (ch := [z, TI, TO, i1, i2]) (fun c o hb q => kp' c o (sub5 c hb) (kp c o (sub5 c hb) q)) hf hT new
    refine ⟨.ref T, _, I1, rfl, ⟨T, x, y, rfl, I.hok.fresh hT, rfl, y1, y2⟩, ⟨hz', hTI', hTO', k1 _ _ t1', k2 _ _ t2', g1, g2⟩, fun c hcm => ?_⟩
    rw [upd_ne (Nat.ne_of_lt (Nat.lt_of_lt_of_le (lt c hcm) hT))]
    exact (hf c hcm).1
  done := by
    intro X hP hw hK hc i pins s σ H E I hf st hg
    obtain ⟨hz, hTI, hTO, e1, e2, l1, l2⟩ := st
    obtain ⟨s1, s2, hend⟩ := hg
    obtain ⟨P1, St1, D1, t1, k1, r1⟩ := h1.draw X hP hw hK hc pins σ H s i I e1 s1
    obtain ⟨P2, St2, D2, t2, k2, r2⟩ := h2.draw X hP hw hK hc pins σ H s i I e2 s2
    subst hP hw hK
    have W := WalksT.zipD2 (A := X.A) S D1 D2
    have ei : i = min m1 m2 := by omega
    subst ei
    refine W.done s _ E ⟨hz, hTI, hTO, t1, t2⟩ fun h' tk kp => ⟨rfl, I.turnedL (t' := tk) (ch := [z, TI, TO, i1, i2]) (fun c o hb q => kp c o (fun q' => hb (by
      have q'' : c = z ∨ c = TO ∨ c = i1 ∨ c = i2 := by simpa using q'
      rcases q'' with q | q | q | q <;> simp [q])) q) hf⟩
  self := fun A i s Q E st h => wpAny_pyIter_zip st.1 h
/-- a side begins -/
theorem hlf_of {X : Cx} {pins : List (Addr × Obj)} {σ : L2.St} {H H0 : Hp} {s : Shared} {x : V} {d : D} {ds : List D} {v : Value} (I : Inv X pins σ H s) (hs : Same H0 H) (hd : Dq X.K H0 x d) (r : RelV x v) (e : itemsD d = some ds) :
    ∃ (o : Obj) (Hb : Heap → Prop) (nu : List Addr), Begins v o Hb ∧ Hb s.heap ∧ (∀ b ∈ nu, b < s.heap.objs.size) ∧ ∀ it, s.heap.objs.size ≤ it → ∃ own src Y, Hlf X.prog X.w X.K it own nu ds.length src Y ∧
      (∀ h', h'.get? it = some o → own 0 h') ∧ (∀ Hc, Same H0 Hc → src Hc) ∧ ∀ i x' d', Y i x' → ds[i]? = some d' → ∀ H0c, Same H0 H0c → Dq X.K H0c x' d' := by
  cases hd with
  | lst h1 h2 =>
    rename_i p vs es
    cases e
    cases r
    obtain ⟨its, rv, pl, _⟩ := I.list (hs.seq h1)
    have hl : p < s.heap.objs.size := pl.lt
    refine ⟨_, _, [p], begins_list p its.toArray, pl.isList, fun b hb => by rw [List.mem_singleton.mp hb]; exact hl, fun it hit => ⟨fun i h => h.IsListIter it p i, fun H => SqL X.K H p vs, fun i x => vs[i]? = some x, ?_, fun h' q => ⟨_, q, rfl, rfl⟩, fun Hc S => S.seq h1, fun i x' d' hx hd' H0c S => ?_⟩⟩
    · have := hlf_lst (P := X.prog) (w := X.w) (K := X.K) it p (Nat.ne_of_lt (Nat.lt_of_lt_of_le hl hit)) vs
      rw [dpa_len h2] at this
      exact this
    · obtain ⟨u, hv, hdv⟩ := dpa_get' h2 hd'
      have hx : vs[i]? = some x' := hx
      rw [hv] at hx
      cases hx
      exact dp_mono S d' _ hdv
  | tup h1 h2 =>
    rename_i p vs es
    cases e
    cases r
    obtain ⟨its, rv, pl, _⟩ := I.tuple (same_t hs h1)
    have hl : p < s.heap.objs.size := by obtain ⟨o, e, _⟩ := pl; exact Heap.lt_size e
    refine ⟨_, _, [p], begins_tuple p its.toArray, pl, fun b hb => by rw [List.mem_singleton.mp hb]; exact hl, fun it hit => ⟨fun i h => h.IsTupleIter it p i, fun H => SqT X.K H p vs, fun i x => vs[i]? = some x, ?_, fun h' q => ⟨_, q, rfl, rfl⟩, fun Hc S => same_t S h1, fun i x' d' hx hd' H0c S => ?_⟩⟩
    · have := hlf_tup (P := X.prog) (w := X.w) (K := X.K) it p (Nat.ne_of_lt (Nat.lt_of_lt_of_le hl hit)) vs
      rw [dpa_len h2] at this
      exact this
    · obtain ⟨u, hv, hdv⟩ := dpa_get' h2 hd'
      have hx : vs[i]? = some x' := hx
      rw [hv] at hx
      cases hx
      exact dp_mono S d' _ hdv
  | str z =>
    cases e
    obtain ⟨t, rfl⟩ := r
    refine ⟨_, fun _ => True, [], begins_text z t, trivial, fun b hb => absurd hb List.not_mem_nil, fun it hit => ⟨fun i h => h.IsStrIter it (strIterType z) z t i, fun _ => True, fun i x => ∃ c, z.cps[i]? = some c ∧ x = .str ⟨#[c]⟩, ?_, fun h' q => ⟨_, q, rfl, rfl⟩, fun Hc S => trivial, fun i x' d' hx hd' H0c S => ?_⟩⟩
    · have := hlf_text (P := X.prog) (w := X.w) (K := X.K) it z t
      rw [show z.cps.size = (z.cps.toList.map sgn).length by rw [List.length_map, Array.length_toList]] at this
      exact this
    · obtain ⟨c, hc, rfl⟩ := hx
      rw [List.getElem?_map, Array.getElem?_toList, hc] at hd'
      cases hd'
      exact .str _
  | _ => cases e
def zipD : List D → List D → List D
  | a :: as, b :: bs => .tuple [a, b] :: zipD as bs
  | _, _ => []
theorem zipD_len : ∀ (as bs : List D), (zipD as bs).length = min as.length bs.length
  | [], _ => by simp [zipD]
  | _ :: _, [] => by simp [zipD]
  | a :: as, b :: bs => by
    unfold zipD
    rw [List.length_cons, zipD_len as bs, List.length_cons, List.length_cons]
    omega
theorem zipD_get : ∀ (as bs : List D) (i : Nat) (d : D), (zipD as bs)[i]? = some d → ∃ a b, as[i]? = some a ∧ bs[i]? = some b ∧ d = .tuple [a, b]
  | [], _, i, d, h => by simp [zipD] at h
  | _ :: _, [], i, d, h => by simp [zipD] at h
  | a :: as, b :: bs, 0, d, h => by
    simp [zipD] at h
    exact ⟨a, b, rfl, rfl, h.symm⟩
  | a :: as, b :: bs, i + 1, d, h => by
    have h' : (zipD as bs)[i]? = some d := by simpa [zipD] using h
    exact zipD_get as bs i d h'
def qZip (q : QL) : QL := fun ρ P => q ρ fun ds ρ' => ∃ d1 d2 as bs, ds = [d1, d2] ∧ itemsD d1 = some as ∧ itemsD d2 = some bs ∧ P (zipD as bs) ρ'
theorem pit_zip {X : Cx} {J : Jr} {e e2 : Expr} {q : QL} {p pos tpos : Pos} {elts : List Expr} {kk : Nat} (hg : Gl X "zip") (hm : X.mg "zip" = none) (ha : PL J X [e, e2] 2 q)
    (hs : starEach [e, e2] X.env = (false, eval e X.env) :: starEach [e2] X.env := by rfl) (hpl : (backTo pos (starEach [e2] X.env)).any (·.1) = false := by rfl) :
    PIt J X (.Tuple elts kk tpos) (.Call (.Name "zip" p) [e, e2] [] pos) (qZip q) := by
  refine ⟨fun pins s σ H R I h => ?_⟩
  obtain ⟨n, H0, ρ, Pq, Rr, w, k⟩ := h
  have run := ha.run pos pins s σ H (fun vs H' => ∃ H0' ds ρ', Rp X.K J n σ H' H0' ρ' ∧ Same H0 H0' ∧ DqAll X.K H0' vs ds ∧ ∃ d1 d2 as bs, ds = [d1, d2] ∧ itemsD d1 = some as ∧ itemsD d2 = some bs ∧ Pq (zipD as bs) ρ') I
    ⟨n, H0, ρ, _, Rr, w, fun vs H' H0' ds ρ' R' S' hd hl hp => ⟨H0', ds, ρ', R', S', hd, hp⟩⟩
  refine Call_ (ld_blt I hg hm PyProof.Rows.boot_zip (PyProof.Rows.callWith_type1 (thn run fun us s1 ⟨vs, H1, I1, r1, H0', ds, ρ', R', S', hd, d1, d2, as, bs, ed, ea, eb, hp⟩ => ?_) hs hpl))
  subst ed
  cases hd with
  | cons q1 hd =>
    cases hd with
    | cons q2 hd =>
      cases hd
      cases r1 with
      | cons r rr =>
        cases rr with
        | cons r' rr =>
          cases rr
          obtain ⟨o1, Hb1, nu1, B1, b1, n1, g1⟩ := hlf_of I1 R'.sub q1 r ea
          obtain ⟨o2, Hb2, nu2, B2, b2, n2, g2⟩ := hlf_of I1 R'.sub q2 r' eb
          obtain ⟨own1, src1, Y1, T1, z1, c1, y1⟩ := g1 s1.heap.objs.size (Nat.le_refl _)
          obtain ⟨own2, src2, Y2, T2, z2, c2, y2⟩ := g2 (s1.heap.objs.size + 1) (Nat.le_succ _)
          refine zip_begins2 B1 B2 b1 b2 fun h' hz hTI hTO e1 e2 hsz hk => wpAny_pyIter_zip hz ?_
          have I2 : Inv X pins σ H1 { s1 with heap := h' } := I1.kept (t' := s1.toks) hk
          refine ⟨s1.heap.objs.size + 4, [s1.heap.objs.size + 4, s1.heap.objs.size + 2, s1.heap.objs.size + 3, s1.heap.objs.size, s1.heap.objs.size + 1], _, _, H1, rfl, I2, turn_zz (PySem.zip_sep2 n1 n2) T1 T2, ⟨hz, hTI, ⟨_, _, hTO⟩, z1 _ e1, z2 _ e2, Nat.zero_le _, Nat.zero_le _⟩, fun c hcm => ?_, ?_⟩
          · have hle : s1.heap.objs.size ≤ c := by
              rcases mem5 hcm with z | z | z | z | z
              · rw [z]; exact Nat.le_add_right _ _
              · rw [z]; exact Nat.le_add_right _ _
              · rw [z]; exact Nat.le_add_right _ _
              · rw [z]; exact Nat.le_refl _
              · rw [z]; exact Nat.le_add_right _ _
            exact I1.fpOk hle (I1.hok.fresh hle)
          · refine k _ H1 H0' _ ρ' R' S' ⟨fun i Hc S hi => ?_, fun i Hc S hi => ?_, fun i Hc H0c x H' d S1 S2 hi hy => ?_⟩ hp
            · rw [zipD_len] at hi
              exact ⟨c1 _ S, c2 _ S, by omega, by omega⟩
            · rw [zipD_len] at hi
              exact ⟨c1 _ S, c2 _ S, by omega⟩
            · obtain ⟨T, x, y, rfl, hn, rfl, hx, hy⟩ := hy
              obtain ⟨a, b, ga, gb, rfl⟩ := zipD_get as bs i d hi
              have h0 : H0c T = none := by
                cases e : H0c T with
                | none => rfl
                | some u => rw [S2 T u e] at hn; cases hn
              exact .inr ⟨T, [x, y], hn, rfl, .tup (SqT.of upd_same) (.cons (dp_mono (same_up h0) a _ (y1 i x a hx ga _ S1)) (.cons (dp_mono (same_up h0) b _ (y2 i y b hy gb _ S1)) .nil))⟩
end Zd

set_option Elab.async false
set_option linter.all false
set_option maxRecDepth 100000
set_option maxHeartbeats 4000000
/-! a list takes up a list of any make; a written dict of data, indexed at once -/
namespace PySem
open AutoSeq1
theorem zd_extendL (l : Addr) (its : Array Value) (k : Nat) (b : Addr) (sl : Array (Option Value)) (jts : Array Value) (k2 : Nat) (h0 : ¬(!its.isEmpty && Builtin.List.listTooLong (its.size + jts.size)) = true) (h1 : its.size ≤ sizeLine) (h2 : its.size + jts.size ≤ sizeLine + 1) :
    Meets (Builtin.«list.extend» ⟨[.ref l, .ref b], []⟩) (fun _ R s => s.heap.get? l = some { cls := .type "list", dict := none, data := .seq its k, slots := #[] } ∧ s.heap.get? b = some ⟨.type "list", none, .seq jts k2, sl⟩ ∧ R (.ok (.ret Value.none)) { s with heap := s.heap.update l (Obj.mapSeq fun x => x ++ jts), toks := s.toks }) :=
  .of_wp fun prog w A R s h => by
    obtain ⟨hp, g, d, tk, os⟩ := s
    obtain ⟨gl, gb, q⟩ := h
    have a1 := idx_int
    have a2 := sub_tuple_tuple
    have a3 := sub_list_list
    have a4 := sub_tuple_list
    have a5 := sub_list_tuple
    have sz : (its ++ jts).size ≤ sizeLine + 1 := by rw [Array.size_append]; exact h2
    wp_walk using (wpAny_updateSeq gl rfl (hz := h1) (_hz' := sz)), wpAny_loadPart' gl, wpAny_loadPart' gb
    exact ⟨_, rfl, q⟩
end PySem
namespace Zd
open PySem PySem.Spec PyProof.Rows L2
def rExtL (K : PySem.W.Frag) : V → List V → Hp → VK → Prop := fun x vs H Q => ∃ l b xs zs, x = .ref l ∧ vs = [.ref b] ∧ H l = some (.lst xs) ∧ SqL K H b zs ∧ xs.length + zs.length ≤ sizeLine ∧ Q .non (upd H l (.lst (xs ++ zs)))
theorem mt_extL {X : Cx} : MtM X "list.extend" (rExtL X.K) := by
  intro pins s σ H x vs v us Q I rx rv h
  obtain ⟨l, b, xs, zs, rfl, rfl, hH, hB, hz, q⟩ := h
  cases rx
  obtain ⟨u, rfl, ru⟩ := rv.one
  cases ru
  obtain ⟨z, its, n, r, hl, e⟩ := I.lstM hH
  obtain ⟨its2, r2, ⟨o2, n2, e2, c2, od2, d2⟩, hl2⟩ := I.list hB
  have hlen2 := r2.length
  have hsz : its.toArray.size + its2.toArray.size ≤ sizeLine := by rw [List.size_toArray, List.size_toArray]; omega
  have hlong : ¬ (!its.toArray.isEmpty && Builtin.List.listTooLong (its.toArray.size + its2.toArray.size)) = true := by
    rw [notLongL hsz, Bool.and_false]
    exact Bool.false_ne_true
  obtain ⟨c, od, dt, sl⟩ := o2
  have c2 : c = .type "list" := c2
  have od2 : od = none := od2
  have d2 : dt = .seq its2.toArray n2 := d2
  subst c2 od2 d2
  refine call_meets F.slot_list_extend ⟨_, e, rfl⟩ F.entry_list_extend (F.args_list_extend_2 _ _)
    (zd_extendL l its.toArray n b sl its2.toArray n2 hlong (by rw [List.size_toArray]; omega) (by omega)) ⟨e, e2, ?_⟩
  refine ⟨.non, _, I.lset (its' := its ++ its2) hH e (by simp) (r.append r2) ?_, rfl, q⟩
  rw [List.length_append]
  omega
section
variable {X : Cx} {J : Jr} {e a b c tg : Expr} {es : List Expr} {pos : Pos}
/-- extend by a list that is data -/
def qExtL (i : Nat) (qa : QD) : QR := fun ρ P => (∃ ds, ρ[i]? = some (.ow ds)) ∧ qa ρ fun d ρ' => match d with
  | .list es => (match ρ'[i]? with
    | some (.ow ds) => ds.length + es.length ≤ sizeLine ∧ P (.da .none) (ρ'.set i (.ow (ds ++ es)))
    | _ => False)
  | _ => False
theorem same_l {K : PySem.W.Frag} {H H' : Hp} {a : Addr} {xs : List V} (S : Same H H') (h : SqL K H a xs) : SqL K H' a xs := by
  rcases h with h | h
  · rcases h with h | ⟨o, h⟩
    · exact .inl (.inl (S _ _ h))
    · exact .inl (.inr ⟨o, S _ _ h⟩)
  · exact .inr h
theorem pr_extL {i : Nat} {qa : QD} {o : Expr} {apos : Pos} (ho : PE X o (tVar i)) (ha : PD J X e qa)
    (hbase : attributeBase o "extend" X.env (eval o X.env) = eval o X.env := by rfl)
    (hfew : ((backTo pos (starEach [e] X.env)).all (fun x => !x.1) && (backToKw pos (keywordEach [] X.env)).all (fun x => x.1.isSome) && decide ([e].length + ([] : List Keyword).length + (if ([] : List Keyword).isEmpty then 0 else 1) < 30)) = true := by rfl)
    (hline : (apos.endLine == pos.line) = true := by rfl) (hs : starEach [e] X.env = (false, eval e X.env) :: starEach [] X.env := by rfl) (hplain : (backTo pos (starEach [] X.env)).any (·.1) = false := by rfl) :
    PR J X (.Call (.Attribute o "extend" apos) [e] [] pos) (qExtL i qa) :=
  pe_mono (pe_bm PySem.F.plainAttrs_list PySem.F.slot_list_extend PySem.F.type_list_extend mt_extL ho (pa_cons ha pa_nil hs) hbase hfew hline hs hplain) fun σ H Q ⟨n, H0, ρ, P, R, ⟨⟨ds, e⟩, w⟩, k⟩ => by
    obtain ⟨a, xs, h1, h2, h3, h4, h5⟩ := R.sl i _ e
    refine ⟨_, h1, .inl ⟨rfl, xs, SqL.of h2⟩, n, H0, ρ, _, R, w, fun v H1 H01 d ρ1 R1 S1 hd w1 => ?_⟩
    cases d with
    | list cs =>
      obtain ⟨b, zs, rfl, z1, z2⟩ := dp_lst hd
      cases e1 : ρ1[i]? with
      | none =>
        have w2 : (match ρ1[i]? with | some (.ow ds) => _ | _ => False) := w1
        rw [e1] at w2
        exact w2.elim
      | some s =>
        have w2 : (match ρ1[i]? with | some (.ow ds) => ds.length + cs.length ≤ sizeLine ∧ P (.da .none) (ρ1.set i (.ow (ds ++ cs))) | _ => False) := w1
        rw [e1] at w2
        cases s with
        | ow es =>
          obtain ⟨b', ys, g1, g2, g3, g4, g5⟩ := R1.sl i _ e1
          rw [h1] at g1
          cases g1
          have hx := dpa_app g3 z2
          exact ⟨a, b, ys, zs, rfl, rfl, g2, same_l R1.sub z1, by rw [dpa_len g3, dpa_len z2]; exact w2.1, k _ _ H01 (.da .none) _ (R1.own_put e1 h1 hx) S1 .non w2.2⟩
        | _ => exact w2.elim
    | _ => exact w1.elim
/-! ### {k: e, ..}[e]: the values are data -/
/-- a dict of ours is filled -/
theorem Rp.poke {K : PySem.W.Frag} {J : Jr} {n : En} {σ : L2.St} {H H0 : Hp} {ρ : List Sl} {p : Addr} {kv kv' : List (L2.Key × V)} (R : Rp K J n σ H H0 ρ) (h : H p = some (.dK kv)) (h0 : H0 p = none) (he : n.He p = none) (hp : p ∉ n.as) (ho : ∀ (i : Nat) (es : List (L2.Key × D)), ρ[i]? = some (Sl.od es) → σ[i]? ≠ some (some (V.ref p))) : Rp K J n σ (upd H p (.dK kv')) H0 ρ where
  len := R.len
  sub := fun a o e => by
    rw [upd_ne (fun z => by rw [z, h0] at e; cases e)]
    exact R.sub a o e
  sl := fun i s e => by
    have q := R.sl i s e
    cases s with
    | un => trivial
    | da d => exact q
    | ow ds =>
      obtain ⟨a, xs, h1, h2, h3, h4, h5⟩ := q
      exact ⟨a, xs, h1, by rw [upd_ne (fun z => by rw [z, h] at h2; cases h2)]; exact h2, h3, h4, h5⟩
    | od ds =>
      obtain ⟨a, xs, h1, h2, h3, h4, h5⟩ := q
      exact ⟨a, xs, h1, by rw [upd_ne (fun z => ho i ds e (by rw [h1, z]))]; exact h2, h3, h4, h5⟩
    | ja => exact q
    | jo c => exact ⟨q.1, q.2.1, q.2.2.loc (fun a ha => upd_ne fun z => hp (by rw [← z]; exact ha)) (keep_upd h rfl)⟩
  sep := R.sep
  fr := fun a o ha e => by
    rw [upd_ne (fun z => by rw [z, he] at e; cases e)]
    exact R.fr a o ha e
  base := R.base
  fresh := R.fresh
  jar := fun q => J.loc (fun a ha => upd_ne fun z => hp (by rw [← z]; exact ha)) (keep_upd h rfl) (R.jar q)
  jdom := R.jdom
  jx := R.jx
abbrev Kq := List (L2.Key × QD)
def qPs : List QD → QL
  | [] => qNil
  | q :: qs => qCons q (qPs qs)
theorem pairs_d {K : PySem.W.Frag} {J : Jr} {n : En} {σ : L2.St} : ∀ (ts : Kq) (H H0 : Hp) (ρ : List Sl) (P : List D → List Sl → Prop) (Q : List (V × V) → Hp → Prop), Rp K J n σ H H0 ρ → qPs (ts.map (·.2)) ρ P →
    (∀ (kvs : List (L2.Key × V)) (H' H0' : Hp) (ds : List D) (ρ' : List Sl), Rp K J n σ H' H0' ρ' → Same H0 H0' → kvs.map (·.1) = ts.map (·.1) → DqAll K H0' (kvs.map (·.2)) ds → P ds ρ' → Q (kvs.map fun kv => (kV kv.1, kv.2)) H') → tPairs (ts.map fun p => (tC (kV p.1), tD K J p.2)) σ H Q
  | [], H, H0, ρ, P, Q, R, w, k => k [] H H0 [] ρ R (.refl _) rfl .nil w
  | (k0, q0) :: ts, H, H0, ρ, P, Q, R, w, k => by
    refine ⟨n, H0, ρ, _, R, w, fun v H1 H01 d ρ1 R1 S1 hd w1 => ?_⟩
    refine pairs_d ts H1 H01 ρ1 (fun ds ρ' => P (d :: ds) ρ') _ R1 w1 fun kvs H' H0' ds ρ' R' S' hk hds hp => ?_
    exact k ((k0, v) :: kvs) H' H0' (d :: ds) ρ' R' (S1.trans S') (by rw [List.map_cons, hk]; rfl) (.cons (dp_mono S' d v hd) hds) hp
theorem merge_nd : ∀ (more kvs : List (L2.Key × V)), (∀ x ∈ more, ∀ y ∈ kvs, y.1 ≠ x.1) → (more.map (·.1)).Nodup → mergeK kvs more = kvs ++ more
  | [], kvs, _, _ => (List.append_nil _).symm
  | x :: more, kvs, h, nd => by
    rw [List.map_cons, List.nodup_cons] at nd
    have e : putK kvs x.1 x.2 = kvs ++ [x] := by
      unfold putK
      rw [if_neg]
      intro z
      obtain ⟨y, hy, e⟩ := List.any_eq_true.mp z
      exact h x (List.mem_cons_self ..) y hy (of_decide_eq_true e)
    show mergeK (putK kvs x.1 x.2) more = _
    rw [e, merge_nd more (kvs ++ [x]) (fun z hz y hy => ?_) nd.2, List.append_assoc]
    · rfl
    · rcases List.mem_append.mp hy with hy | hy
      · exact h z (List.mem_cons_of_mem _ hz) y hy
      · rw [List.mem_singleton.mp hy]
        exact fun q => nd.1 (by rw [q]; exact List.mem_map_of_mem hz)
/-- the value at a key -/
def atK : List L2.Key → List D → L2.Key → Option D
  | k0 :: ks, d :: ds, k => if k = k0 then some d else atK ks ds k
  | _, _, _ => none
theorem atK_ok {K : PySem.W.Frag} {H : Hp} {k : L2.Key} {d : D} : ∀ (kvs : List (L2.Key × V)) (ds : List D), DqAll K H (kvs.map (·.2)) ds → atK (kvs.map (·.1)) ds k = some d → ∃ v, valV kvs k = some v ∧ Dq K H v d
  | [], ds, _, h => by
    cases ds <;> cases h
  | (k0, v) :: kvs, [], h, _ => by cases h
  | (k0, v) :: kvs, d0 :: ds, .cons h1 h2, h => by
    have h : (if k = k0 then some d0 else atK (kvs.map (·.1)) ds k) = some d := h
    by_cases q : k = k0
    · rw [if_pos q] at h
      cases h
      exact ⟨v, valV_pos q.symm, h1⟩
    · rw [if_neg q] at h
      obtain ⟨u, e1, e2⟩ := atK_ok kvs ds h2 h
      refine ⟨u, ?_, e2⟩
      unfold valV at e1 ⊢
      rw [List.find?_cons]
      have q' : decide ((k0, v).1 = k) = false := decide_eq_false fun z => q z.symm
      rw [q']
      exact e1
def qDgx (ts : Kq) (qe : QD) : QD := fun ρ P => qPs (ts.map (·.2)) ρ fun ds ρ1 => qe ρ1 fun d ρ2 => ∃ k dv, keyD d = some k ∧ atK (ts.map (·.1)) ds k = some dv ∧ P dv ρ2
def tDx (K : PySem.W.Frag) (J : Jr) (ts : Kq) : TE := fun σ H Q => ∃ (n : En) (H0 : Hp) (ρ : List Sl) (P : List D → List Sl → Prop), Rp K J n σ H H0 ρ ∧ qPs (ts.map (·.2)) ρ P ∧
  ∀ (p : Addr) (kvs : List (L2.Key × V)) (H' H0' : Hp) (ds : List D) (ρ' : List Sl), Rp K J (n.keep p (.dK kvs)) σ H' H0' ρ' → Same H0 H0' → p ∉ n.as → n.He p = none → H0' p = none → (∀ a ∈ n.as, n.H0 a = none ∧ n.He a ≠ none) → kvs.map (·.1) = ts.map (·.1) → DqAll K H0' (kvs.map (·.2)) ds → P ds ρ' → Q (.ref p) H'
theorem pe_dx {ts : Kq} {keys : List (Option Expr)} {values : List Expr} (h : PPs X pos keys values (ts.map fun p => (tC (kV p.1), tD X.K J p.2))) (hnd : (ts.map (·.1)).Nodup) (h15 : decide (ts.length ≤ 15) = true) (hall : keys.all (·.isSome) = true := by rfl) (hl : keys.length = values.length := by rfl)
    (h0 : keys ≠ [] := by intro z; cases z) (hk15 : decide (keys.length ≤ 15) = true := by rfl) : PE X (.Dict keys values pos) (tDx X.K J ts) :=
  pe_mono (pe_disp h hall hl h0 (of_decide_eq_true hk15)) fun σ H Q ⟨n, H0, ρ, P, R, w, k⟩ p hp => by
    have hno : ∀ (i : Nat) (es : List D), ρ[i]? = some (Sl.ow es) → σ[i]? ≠ some (some (V.ref p)) := fun i es e z => by
      obtain ⟨b, ys, h1, h2, _⟩ := R.sl i _ e
      rw [h1] at z
      cases z
      rw [hp] at h2
      cases h2
    have na : p ∉ n.as := fun q => R.hej (R.jdom p q).2 hp
    have R1 := (R.laid (o := .dK []) hp).keep upd_same (R.h0 hp) (R.he0 hp) hno (R.od_new hp)
    refine pairs_d ts _ H0 ρ P _ R1 w fun kvs H' H0' ds ρ' R' S' hk hds hP => ?_
    have hkp := Rp.kept na R'
    have h0p : H0' p = none := R'.fresh p (R.base.free (R.h0 hp)) (by show upd n.He p _ p ≠ none; rw [upd_same]; intro z; cases z)
    have hlen : kvs.length = ts.length := by
      have := congrArg List.length hk
      rwa [List.length_map, List.length_map] at this
    refine ⟨hkp, kvs, rfl, by rw [hlen]; exact of_decide_eq_true h15, ?_⟩
    have em : mergeK [] kvs = kvs := (merge_nd kvs [] (fun _ _ y hy => by cases hy) (by rw [hk]; exact hnd)).trans (List.nil_append _)
    rw [em]
    have U := R'.unkeep (R.he0 hp) R.jdom
    have ap := (Rp.kept_apart R').2
    have U2 := U.poke (kv' := kvs) hkp h0p (R.he0 hp) na ap
    refine k p kvs _ H0' ds ρ' (U2.keep upd_same h0p (R.he0 hp) (Rp.kept_apart R').1 ap) S' na (R.he0 hp) h0p R.jdom hk hds hP
theorem pd_dgx {ts : Kq} {keys : List (Option Expr)} {values : List Expr} {p2 : Pos} {qe : QD} (hu : X.A.units + 64 < cLine) (h : PPs X p2 keys values (ts.map fun p => (tC (kV p.1), tD X.K J p.2))) (hnd : (ts.map (·.1)).Nodup) (h15 : decide (ts.length ≤ 15) = true) (he : PD J X e qe) (hs : NoSl e)
    (hall : keys.all (·.isSome) = true := by rfl) (hl : keys.length = values.length := by rfl) (h0 : keys ≠ [] := by intro z; cases z) (hk15 : decide (keys.length ≤ 15) = true := by rfl) : PD J X (.Subscript (.Dict keys values p2) e pos) (qDgx ts qe) :=
  pe_mono (pe_dget (by omega) (pe_dx h hnd h15 hall hl h0 hk15) he hs) fun σ H Q ⟨n, H0, ρ, P, R, w, k⟩ => by
    refine ⟨n, H0, ρ, _, R, w, fun p kvs H1 H01 ds ρ1 R1 S1 na hep _ jd hk hds w1 => ⟨_, H01, ρ1, _, R1, w1, fun v H2 H02 d ρ2 R2 S2 hd ⟨kk, dv, e1, e2, hP⟩ => ?_⟩⟩
    have hkp := Rp.kept na R2
    have hv := keyD_v hd e1
    subst hv
    rw [← hk] at e2
    obtain ⟨u, g1, g2⟩ := atK_ok kvs ds (dpa_mono S2 ds _ hds) e2
    refine ⟨p, u, rfl, ?_, k u H2 H02 dv ρ2 (R2.unkeep hep jd) (S1.trans S2) g2 hP⟩
    have g := DGet.k (k := kk) hkp
    rw [g1] at g
    exact g
end
end Zd

set_option Elab.async false
set_option linter.all false
set_option maxRecDepth 100000
set_option maxHeartbeats 4000000
namespace Zd
open PySem PySem.Spec PyProof.Rows L2
/-! ### enumerate of a text, a tuple, a list of data -/
theorem zn_newB {v : Value} {o : Obj} {Hb : Heap → Prop} (B : Begins v o Hb) :
    Meets (Builtin.«enumerate.__new__» ⟨[.type "enumerate", v], []⟩) (fun _ R s => Hb s.heap ∧
      R (.ok (.ret (.ref (s.heap.push o).objs.size))) { s with heap := (s.heap.push o).push { cls := .type "enumerate", data := .fields #[.none, .bool false, .ref s.heap.objs.size, rawInt 0, .none, .none] } }) :=
  .of_wp fun prog w A R s h => by
    obtain ⟨hp, g, d, tk, os⟩ := s; obtain ⟨h1, h⟩ := h
    have hsub := sub_enumerate
    have q1 : ∀ {A' : Around} {E : Value → Shared → Prop} {Q : Value → Shared → Prop}, Q (.ref hp.objs.size) ⟨hp.push o, g, d, tk, os⟩ → wpAny (model prog w) A' (pyIter v) Q E ⟨hp, g, d, tk, os⟩ :=
      fun q => B.iter prog w _ _ ⟨hp, g, d, tk, os⟩ _ h1 q
    wp_walk using q1
    refine wpAny_stack_any fun st => wpAny_pure ?_
    split
    · rename_i c _ _ _ _ _
      cases (c == Value.type "enumerate")
      · wp_walk using q1
        exact ⟨_, rfl, h⟩
      · wp_walk using q1
        exact ⟨_, rfl, h⟩
    · wp_walk using q1
      exact ⟨_, rfl, h⟩
theorem zn_begins {prog : Program} {w : World} {A : Around} {E : Value → Shared → Prop} {s : Shared} {v : Value} {o : Obj} {Hb : Heap → Prop} {Q : Value → Shared → Prop} (B : Begins v o Hb) (h1 : Hb s.heap)
    (h : ∀ h', IsEnum h' (s.heap.objs.size + 1) s.heap.objs.size 0 .none → h'.get? s.heap.objs.size = some o → h'.objs.size = s.heap.objs.size + 2 →
      (∀ b u, s.heap.get? b = some u → h'.get? b = some u) → Q (.ref (s.heap.objs.size + 1)) { s with heap := h' }) :
    wpAny (model prog w) A (call (.type "enumerate") [v]) Q E s := by
  refine callType_new F.called_enumerate (by decide) (F.typeCall_enumerate_1 _) (F.newCall_enumerate_1 _) (fun obj => F.args_object_init_2 obj _) F.entry_enumerate_new (zn_newB B) ⟨h1, ?_⟩
  have hz : (s.heap.push o).objs.size = s.heap.objs.size + 1 := Heap.size_push ..
  show _ ∧ _
  rw [hz]
  have he : IsEnum ((s.heap.push o).push { cls := .type "enumerate", data := .fields #[.none, .bool false, .ref s.heap.objs.size, rawInt 0, .none, .none] }) (s.heap.objs.size + 1) s.heap.objs.size 0 .none := by
    have := Heap.get?_push_size (s.heap.push o) (o := { cls := .type "enumerate", data := .fields #[.none, .bool false, .ref s.heap.objs.size, rawInt 0, .none, .none] }) rfl
    rw [hz] at this; exact this
  exact ⟨⟨_, he, rfl⟩, h _ he (Heap.get?_push_of_some _ (Heap.get?_push_size _ B.free)) (by rw [Heap.size_push, hz]) fun b u x => Heap.get?_push_of_some _ (Heap.get?_push_of_some _ x)⟩
def Iten (m : Nat) (src : Hp → Prop) (Y : Nat → V → Prop) : It :=
  ⟨fun i H => src H ∧ i < m, fun i H v H' => ∃ T x, v = .ref T ∧ H T = none ∧ H' = upd H T (.tup [.int (i : Nat), x]) ∧ Y i x, fun i H => src H ∧ m ≤ i⟩
theorem turn_en {P : Program} {w : World} {K : PySem.W.Frag} {elts : List Expr} {kk : Nat} {tpos : Pos} {e it : Addr} {own : Nat → Heap → Prop} {nu : List Addr} {m : Nat} {src : Hp → Prop} {Y : Nat → V → Prop} (hei : e ≠ it) (hef : e ∉ it :: nu) (h1 : Hlf P w K it own nu m src Y) :
    Turn P w K (.Tuple elts kk tpos) (Iten m src Y) [e, it] e (fun i h => (∃ old, IsEnum h e it ((i : Nat) : Int) old) ∧ own i h ∧ i ≤ m) where
  mem := by simp
  obj := fun i h st c hc => by
    obtain ⟨⟨old, he⟩, e1, _⟩ := st
    have hc' : c = e ∨ c = it := by simpa using hc
    rcases hc' with q | q
    · rw [q]; exact ⟨_, he, fun v q => nomatch q⟩
    · rw [q]; exact h1.obj i h e1
  keep := fun i h h' st k => by
    obtain ⟨⟨old, he⟩, e1, l1⟩ := st
    exact ⟨⟨old, k e (by simp) _ he⟩, h1.keep i h h' e1 fun o q => k it (by simp) o q, l1⟩
  item := by
    intro X hP hw hK hc i pins s σ H E I hf st hg
    obtain ⟨⟨old, he⟩, e1, l1⟩ := st
    obtain ⟨s1, g1⟩ := hg
    obtain ⟨P1, St1, D1, t1, k1, r1⟩ := h1.draw X hP hw hK hc pins σ H s i I e1 s1
    subst hP hw hK
    have lt : ∀ c ∈ [e, it], c < s.heap.objs.size := fun c hcm => by
      have hc' : c = e ∨ c = it := by simpa using hcm
      rcases hc' with q | q
      · rw [q]; exact Heap.lt_size he
      · rw [q]; obtain ⟨_, z, _⟩ := h1.obj _ _ e1; exact Heap.lt_size z
    have W := WalksT.enumerateD (A := X.A) D1 e hei hef (List.mem_cons_self ..)
    refine W.item i s _ E g1 ⟨⟨old, he⟩, t1⟩ fun T vals h' tk pv hT it' mid kp => ?_
    obtain ⟨tt, u, p1, ev⟩ := pv
    subst ev
    obtain ⟨x, ru, y1⟩ := r1 u p1
    have ap := W.apart _ _ _ mid
    refine ⟨_, rfl, W.go elts kk tpos i T { s with heap := h', toks := tk } _ E mid fun h'' st' kp' => ?_⟩
    obtain ⟨he', t1'⟩ := st'
    have hT2 : h''.IsTuple T #[.int (i : Nat) tt, u] := it'.at fun o q => kp' T o ap q
    have new : ObjOk X.prog X.w (upd H T (.tup [.int (i : Nat), x])) h'' T (.tup [.int (i : Nat), x]) :=
      ⟨by show 2 ≤ sizeLine; decide, [.int (i : Nat) tt, u], .cons ⟨_, rfl⟩ (.cons ru .nil), hT2⟩
    have I1 : Inv X pins σ (upd H T (.tup [.int (i : Nat), x])) { s with heap := h'', toks := tk } :=
      I.turnedNew (t' := tk) (ch := [e, it]) (fun c o hb q => kp' c o hb (kp c o hb q)) hf hT new
    refine ⟨.ref T, _, I1, rfl, ⟨T, x, rfl, I.hok.fresh hT, rfl, y1⟩, ⟨he', k1 _ _ t1', g1⟩, fun c hcm => ?_⟩
    rw [upd_ne (Nat.ne_of_lt (Nat.lt_of_lt_of_le (lt c hcm) hT))]
    exact (hf c hcm).1
  done := by
    intro X hP hw hK hc i pins s σ H E I hf st hg
    obtain ⟨⟨old, he⟩, e1, l1⟩ := st
    obtain ⟨s1, hend⟩ := hg
    obtain ⟨P1, St1, D1, t1, k1, r1⟩ := h1.draw X hP hw hK hc pins σ H s i I e1 s1
    subst hP hw hK
    have W := WalksT.enumerateD (A := X.A) D1 e hei hef (List.mem_cons_self ..)
    have ei : i = m := by omega
    subst ei
    exact W.done s _ E ⟨⟨old, he⟩, t1⟩ fun h' tk kp => ⟨rfl, I.turnedL (t' := tk) (ch := [e, it]) (fun c o hb q => kp c o hb q) hf⟩
  self := fun A i s Q E st h => let ⟨⟨_, he⟩, _⟩ := st; wpAny_pyIter_enum he h
def enumD : Int → List D → List D
  | _, [] => []
  | k, a :: as => .tuple [.int k, a] :: enumD (k + 1) as
theorem enumD_len : ∀ (as : List D) (k : Int), (enumD k as).length = as.length
  | [], _ => rfl
  | a :: as, k => by
    unfold enumD
    rw [List.length_cons, enumD_len as, List.length_cons]
theorem enumD_get : ∀ (as : List D) (k : Int) (i : Nat) (d : D), (enumD k as)[i]? = some d → ∃ a, as[i]? = some a ∧ d = .tuple [.int (k + i), a]
  | [], _, i, d, h => by simp [enumD] at h
  | a :: as, k, 0, d, h => by
    simp [enumD] at h
    exact ⟨a, rfl, by rw [← h]; simp⟩
  | a :: as, k, i + 1, d, h => by
    have h' : (enumD (k + 1) as)[i]? = some d := by simpa [enumD] using h
    obtain ⟨b, h1, h2⟩ := enumD_get as (k + 1) i d h'
    exact ⟨b, h1, by rw [h2, show k + 1 + (i : Int) = k + ((i + 1 : Nat) : Int) by omega]⟩
def qEnum (q : QD) : QL := fun ρ P => q ρ fun d ρ' => ∃ as, itemsD d = some as ∧ P (enumD 0 as) ρ'
theorem pit_enum {X : Cx} {J : Jr} {ex : Expr} {q : QD} {p pos tpos : Pos} {elts : List Expr} {kk : Nat} (hg : Gl X "enumerate") (hm : X.mg "enumerate" = none) (ha : PD J X ex q) (hs : starEach [ex] X.env = (false, eval ex X.env) :: starEach [] X.env := by rfl) :
    PIt J X (.Tuple elts kk tpos) (.Call (.Name "enumerate" p) [ex] [] pos) (qEnum q) := by
  refine ⟨fun pins s σ H R I h => ?_⟩
  obtain ⟨n, H0, ρ, Pq, Rr, w, k⟩ := h
  have run := (pa_cons ha pa_nil hs).run pos pins s σ H (fun vs H' => ∃ v H0' d ρ', vs = [v] ∧ Rp X.K J n σ H' H0' ρ' ∧ Same H0 H0' ∧ Dq X.K H0' v d ∧ ∃ as, itemsD d = some as ∧ Pq (enumD 0 as) ρ') I
    ⟨n, H0, ρ, _, Rr, w, fun v H' H0' d ρ' R' S' hd hp => ⟨v, H0', d, ρ', rfl, R', S', hd, hp⟩⟩
  refine Call_ (ld_blt I hg hm boot_enumerate (PyProof.Rows.callWith_type1 (thn run fun us s1 ⟨vs, H1, I1, r1, v, H0', d, ρ', ev, R', S', hd, as, ea, hp⟩ => ?_) hs rfl))
  subst ev
  cases r1 with
  | cons r rr =>
    cases rr
    obtain ⟨o1, Hb1, nu1, B1, b1, n1, g1⟩ := hlf_of I1 R'.sub hd r ea
    obtain ⟨own1, src1, Y1, T1, z1, c1, y1⟩ := g1 s1.heap.objs.size (Nat.le_refl _)
    refine zn_begins B1 b1 fun h' he e1 hsz hk => wpAny_pyIter_enum he ?_
    have I2 : Inv X pins σ H1 { s1 with heap := h' } := I1.kept (t' := s1.toks) hk
    refine ⟨s1.heap.objs.size + 1, [s1.heap.objs.size + 1, s1.heap.objs.size], _, _, H1, rfl, I2, turn_en (Nat.succ_ne_self _) (fun z => ?_) T1, ⟨⟨.none, he⟩, z1 _ e1, Nat.zero_le _⟩, fun c hcm => ?_, ?_⟩
    · rcases List.mem_cons.mp z with q | q
      · exact Nat.succ_ne_self _ q
      · exact absurd (n1 _ q) (by show ¬ (s1.heap.objs.size + 1 : Nat) < s1.heap.objs.size; omega)
    · have e' : c = s1.heap.objs.size + 1 ∨ c = s1.heap.objs.size := by simpa using hcm
      have hle : s1.heap.objs.size ≤ c := by
        rcases e' with z | z
        · rw [z]; exact Nat.le_add_right _ _
        · rw [z]; exact Nat.le_refl _
      exact I1.fpOk hle (I1.hok.fresh hle)
    · refine k _ H1 H0' _ ρ' R' S' ⟨fun i Hc S hi => ?_, fun i Hc S hi => ?_, fun i Hc H0c x H' d S1 S2 hi hy => ?_⟩ hp
      · rw [enumD_len] at hi
        exact ⟨c1 _ S, hi⟩
      · rw [enumD_len] at hi
        exact ⟨c1 _ S, hi⟩
      · obtain ⟨T, x, rfl, hn, rfl, hx⟩ := hy
        obtain ⟨a, ga, rfl⟩ := enumD_get as 0 i d hi
        have h0 : H0c T = none := by
          cases e : H0c T with
          | none => rfl
          | some u => rw [S2 T u e] at hn; cases hn
        rw [Int.zero_add]
        exact .inr ⟨T, _, hn, rfl, .tup (SqT.of upd_same) (.cons (.int _) (.cons (dp_mono (same_up h0) a _ (y1 i x a hx ga _ S1)) .nil))⟩
end Zd

set_option Elab.async false
set_option linter.all false
set_option maxRecDepth 100000
set_option maxHeartbeats 4000000
namespace Zd
open PySem PySem.Spec PyProof.Rows L2
/-! ### an exception class whose __init__ says super().__init__(..), the fields then -/
/-- what the written part says of C and of its __init__, at f -/
structure InitK (K : PySem.W.Frag) (C f cc cda : Addr) (file : Str) : Prop where
  T : OexC K C
  cell : ∃ a b c, K.lookup cc = some ⟨a, b, .cell (some (.ref C)), c⟩
  code : ∃ a b vs c t, K.lookup cda = some ⟨a, b, .fields vs, c⟩ ∧ vs[2]? = some (.str file t)
  self : PySem.W.mroIn K C (.ref C) = some true
  sup : PySem.W.ks_superIn K C C "__init__" = some (some (.builtin "ValueError.__init__"))
  third : PySem.W.nsIn K cStatics "thirdparty.any" = some none
  ve : PySem.W.subIn K (.ref C) (.type "ValueError") = some true
section
variable {X : Cx} {pins : List (Addr × Obj)} {σ : L2.St} {H : Hp} {s : Shared} {a C f cc cda : Addr} {file : Str} {A : Around} {E : Value → Shared → Prop} {env : Env}
/-- a local name of ours, read in another frame over the same names -/
theorem ld_own (I : Inv X pins σ H s) (hl : env.locals = X.env.locals) (hk : env.scope.kind = .function) {y : Str} {i : Nat} {v : V} {pos : Pos} {Q : Value → Shared → Prop} (hN : X.N[i]? = some y) (hv : σ[i]? = some (some v)) (hvis : Vis X.env.scope y)
    (h1 : X.env.kindOf y = some .local) (h2 : env.kindOf y = some .local) (hd : (y == ("__debug__" : Str)) = false) (h : ∀ u, RelV v u → Q u s) : wpAny (model X.prog X.w) A (eval (.Name y pos) env) Q E s := by
  obtain ⟨m, hn, hr⟩ := I.loc
  obtain ⟨u, ru, hu⟩ := hr i y v hN hv hvis
  rcases hu with ⟨_, hm⟩ | ⟨hk2, _⟩
  · exact wpAny_Name (wpAny_loadName_local hk h2 (by rw [hl]; exact hn) hm (h u ru)) hd
  · rw [h1] at hk2
    rcases hk2 with z | z <;> cases z
theorem ldn_own (I : Inv X pins σ H s) (hl : env.locals = X.env.locals) (hk : env.scope.kind = .function) {y : Str} {i : Nat} {v : V} {Q : Value → Shared → Prop} (hN : X.N[i]? = some y) (hv : σ[i]? = some (some v)) (hvis : Vis X.env.scope y)
    (h1 : X.env.kindOf y = some .local) (h2 : env.kindOf y = some .local) (h : ∀ u, RelV v u → Q u s) : wpAny (model X.prog X.w) A (loadName env y) Q E s := by
  obtain ⟨m, hn, hr⟩ := I.loc
  obtain ⟨u, ru, hu⟩ := hr i y v hN hv hvis
  rcases hu with ⟨_, hm⟩ | ⟨hk2, _⟩
  · exact wpAny_loadName_local hk h2 (by rw [hl]; exact hn) hm (h u ru)
  · rw [h1] at hk2
    rcases hk2 with z | z <;> cases z
/-- super() -/
theorem super_ok (W : InitK X.K C f cc cda file) (I : Inv X pins σ H s) (ea : H a = some (exo a C none)) {name qual : Str} {params : Arguments} {body : List Stmt} {scope : Scope} {dV kV doc pm ct : Value} {an : Option Addr} {oc : Value} {od : Option Addr} {osl : Array (Option Value)} {L : Addr}
    (lk : X.K.lookup f = some ⟨oc, od, .func (PySem.W.ksFn name qual params body scope dV kV doc pm an (.ref cda) ct cc), osl⟩) {ar : Arg} (hp : (params.posonlyargs ++ params.args).head? = some ar)
    (hL : L = X.env.locals) (hN : X.N[0]? = some ar.arg) (hv : σ[0]? = some (some (.ref a))) (hvis : Vis X.env.scope ar.arg) (h1 : X.env.kindOf ar.arg = some .local)
    (hfile : ((X.prog.main.file : Str) == file) = true) (hms : X.mg "super" = none) (hks : scope.names.lookup ("super" : Str) = some .globalImplicit) (hkc : scope.names.lookup ("__class__" : Str) = some .free) (hka : scope.names.lookup ar.arg = some .local) (hk : scope.kind = .function)
    (htop : (X.prog.main.scope.names.lookup ("super" : Str)).isSome = false) {p0 p1 : Pos} {whole : Sem Value} {Q : Value → Shared → Prop}
    (h : ∀ so s', Inv X pins σ H s' → s'.heap.get? so = some (PySem.W.ks_superObj C a C) → Q (.ref so) s') :
    _root_.PySem.wpAt (model X.prog X.w) A (.func body (PySem.W.ksEnv qual scope L f (.ref cda) cc)) (attributeBase (.Call (.Name "super" p0) [] [] p1) "__init__" (PySem.W.ksEnv qual scope L f (.ref cda) cc) whole) Q E s := by
  have KX := I.kIn
  obtain ⟨c1, c2, c3, hcell⟩ := W.cell
  obtain ⟨d1, d2, vs, d3, tf, hcode, hvs⟩ := W.code
  obtain ⟨nm, q, N, bs, bm, sn, sub, ab, col, dd, k0, k1, k2, k3, k5, hC, hbm⟩ := W.T.cls
  obtain ⟨t1, ho⟩ := exo_at I.hok ea
  obtain ⟨mb, b1, b2⟩ := I.mod.blt
  refine ks_wpAt_super_base (env := PySem.W.ksEnv qual scope L f (.ref cda) cc) hks hkc rfl rfl (KX _ _ lk) rfl hp rfl (KX _ _ hcode) rfl hvs hfile htop ?_
  refine PySem.W.ks_loadName_global hk hks (Calls.loadGlobal_builtin (env := PySem.W.ksEnv qual scope L f (.ref cda) cc) (I.mod.glob.keeps I.bk) hms (b1.keeps I.bk) ((b2 "super" (by decide)).trans (show bootBuiltins "super" = some (.type "super") by first | rfl | decide +kernel)) ⟨rfl, ?_⟩)
  refine wpAny_loadName_free hk hkc rfl ⟨_, KX _ _ hcell, rfl⟩ ?_
  refine ldn_own (v := .ref a) I hL hk hN hv hvis h1 hka fun u ru => ?_
  obtain rfl : u = Value.ref a := ru
  have hD1 := KX _ _ hC
  refine ks_wpAny_isType_cls hD1 rfl ⟨rfl, ?_⟩
  refine ks_wpAny_call_super (h := s.heap) (g := s.gens) (d := s.drawn) (t := s.toks) (os := s.os) hD1 rfl ho rfl (fun c z => by cases z) (PySem.W.looks_mroIn KX W.self) fun h' e k => ?_
  exact h s.heap.objs.size _ (I.kept (t' := s.toks) k) e
/-- super().__init__, looked up: the built-in one, bound -/
theorem bound_ok (W : InitK X.K C f cc cda file) (I : Inv X pins σ H s) (ea : H a = some (exo a C none)) {so : Addr} (hso : s.heap.get? so = some (PySem.W.ks_superObj C a C)) {pl : Sem Bool} {Q : Value × List Value → Shared → Prop}
    (h : ∀ q s', Inv X pins σ H s' → s'.heap.get? q = some (PySem.W.kxs_mw "ValueError.__init__" a) → s'.heap.objs.size = q + 1 → Q (.ref q, []) s') : wpAny (model X.prog X.w) A (getMethod (.ref so) "__init__" pl) Q E s := by
  have KX := I.kIn
  obtain ⟨nm, q, N, bs, bm, sn, sub, ab, col, dd, k0, k1, k2, k3, k5, hC, hbm⟩ := W.T.cls
  obtain ⟨t1, ho⟩ := exo_at I.hok ea
  have In : PySem.W.InstAt s.heap a { cls := .ref C, dict := none, data := .fields #[.ref t1, .none, .none, .none, .bool false, .none] } C none := ⟨ho, rfl, rfl, trivial⟩
  have hI : PySem.W.Looks (model X.prog X.w) s.heap (isInstance (.ref a) (.type "ValueError")) true := In.type.andThen (PySem.W.looks_subIn KX W.ve)
  have hm := W.sup
  have hc : PySem.W.clsIn X.K C = some { name := nm, bases := bs, mro := .ref C :: bm, ns := N, qualname := q, hasDict := true, slotNames := sn, subclasses := sub, abstract := ab, collection := col, hasDel := false } := by unfold PySem.W.clsIn; rw [hC] <;> rfl
  unfold PySem.W.ks_superIn at hm
  rw [hc] at hm
  obtain ⟨hh, g, d, t, os⟩ := s
  refine PySem.W.kxs_getMethod PySem.W.kxs_ValueError hso (PySem.W.looks_opaque KX W.third) (l₀ := .ref C :: bm) ?_ rfl KX hm hI (PySem.W.ks_ne KX In hc) (by decide) ?_
  · exact fun A Q E s k q => wpAny_bind ((PySem.W.looks_clsIn KX hc) A _ E s k (wpAny_pure q))
  · exact h _ _ (I.kept (t' := t + 1) fun b o e => Heap.get?_push_of_some _ e) (Heap.get?_push_at rfl rfl) (Heap.size_push ..)
/-- .. and called -/
theorem bcall_ok (W : InitK X.K C f cc cda file) (I : Inv X pins σ H s) (ea : H a = some (exo a C none)) {q : Addr} (hq : s.heap.get? q = some (PySem.W.kxs_mw "ValueError.__init__" a)) {rest : List Value} (hz : rest.length ≤ sizeLine) {Q : Value → Shared → Prop}
    (h : ∀ s', Inv X pins σ H s' → Q .none s') : wpAny (model X.prog X.w) A (call (.ref q) rest) Q E s := by
  have KX := I.kIn
  obtain ⟨nm, qn, N, bs, bm, sn, sub, ab, col, dd, k0, k1, k2, k3, k5, hC, hbm⟩ := W.T.cls
  obtain ⟨t1, ho⟩ := exo_at I.hok ea
  have FB := F.excBase_ValueError
  obtain ⟨hh, g, d, tk, os⟩ := s
  refine wpAny_call (codeAny_of_tree ?_)
  show wpAny _ A.in1 (callAny (.ref q) ⟨rest, []⟩) _ _ _
  simp only [callAny]
  refine wpAny_bind (wpAny_load hq ?_)
  simp only [PySem.W.kxs_mw, show (Value.type "method-wrapper" == Value.type "method" || Value.type "method-wrapper" == Value.type "builtin_function_or_method" || Value.type "method-wrapper" == Value.type "method-wrapper") = true by decide, if_true]
  refine PySem.W.KFB.if_so (by decide) ?_
  refine wpAny_bind (PySem.W.check_bound_init FB.toExcCallFacts (KX _ _ hC) ho rfl ?_)
  refine wpAny_bind (wpAny_pure (wpAny_pure ?_))
  refine ⟨plainId_quiet FB.init.plain _, codeAny_builtin FB.initEntry ?_⟩
  refine PySem.W.exc_init_tree (cls := .ref C) (t0 := t1) (dv := none) (c2 := .none) (c3 := .none) (b4 := .bool false) ho hz fun h' k e' t' => ?_
  have J := I.write (t' := tk) (x := a) (e := a) (o := exo a C none) (by rw [ea]; exact True.intro) (.inl rfl) k ⟨_, e'⟩ (exo_ok e')
  have eu : upd H a (exo a C none) = H := by
    funext b
    by_cases hb : b = a
    · rw [hb, upd_same, ea]
    · rw [upd_ne hb]
  rw [eu] at J
  exact h _ J
end
/-- the scope without what is free -/
def scL (sc : Scope) (ps : List Str) : Scope := { sc with names := ps.map fun p => (p, NameKind.local) }
/-- the body of __init__: super().__init__(ps..), self.p = p for each -/
inductive Asgs (env : Env) : List Str → List Stmt → Prop
  | nil : Asgs env [] []
  | cons {p : Str} {ps : List Str} {sts : List Stmt} {r0 r1 r2 r3 : Pos} (hs : swapsWith (.Name p r2) (some (.Attribute (.Name "self" r0) p r1)) r3.line env = pure false) (t : Asgs env ps sts) :
      Asgs env (p :: ps) (.Assign [.Attribute (.Name "self" r0) p r1] (.Name p r2) r3 :: sts)
/-- what stands behind the assignments -/
def fldH (H : Hp) (a C dx : Addr) (fs : List (Str × V)) : Hp := upd (upd H dx (exd dx fs)) a (exo a C (some dx))
theorem fldH_a {H : Hp} {a C dx : Addr} {fs : List (Str × V)} : fldH H a C dx fs a = some (exo a C (some dx)) := upd_same
theorem fldH_d {H : Hp} {a C dx : Addr} {fs : List (Str × V)} (h : dx ≠ a) : fldH H a C dx fs dx = some (exd dx fs) := by
  unfold fldH
  rw [upd_ne h, upd_same]
theorem fldH_up {H : Hp} {a C dx : Addr} {fs fs' : List (Str × V)} (h : dx ≠ a) : upd (fldH H a C dx fs) dx (exd dx fs') = fldH H a C dx fs' := by
  funext b
  unfold fldH
  by_cases hb : b = dx
  · subst hb
    rw [upd_same, upd_ne h, upd_same]
  · rw [upd_ne hb]
    by_cases ha : b = a
    · subst ha
      rw [upd_same, upd_same]
    · rw [upd_ne ha, upd_ne hb, upd_ne ha, upd_ne hb]
section
variable {X : Cx} {pins : List (Addr × Obj)} {σ : L2.St} {H : Hp} {s : Shared} {a C f cc cda : Addr} {file : Str} {A : Around} {E : Value → Shared → Prop} {env : Env}
/-- the further assignments -/
theorem asgs_more (T : OexC X.K C) (hl : env.locals = X.env.locals) (hk : env.scope.kind = .function) {dx : Addr} (hda : dx ≠ a) {c : Code} {n : Nat} (hself : X.N[0]? = some ("self" : Str)) (hv0 : σ[0]? = some (some (.ref a)))
    (hloc : ∀ y ∈ X.N, Vis X.env.scope y ∧ X.env.kindOf y = some .local ∧ env.kindOf y = some .local ∧ (y == ("__debug__" : Str)) = false) {Q : Flow → Shared → Prop} :
    ∀ (ps : List Str) (sts : List Stmt) (ws : List V) (fs : List (Str × V)) (k : Nat) (s : Shared), Asgs env ps sts → (∀ j p, ps[j]? = some p → X.N[k + j]? = some p ∧ ∃ v, ws[j]? = some v ∧ σ[k + j]? = some (some v)) → ps.length = ws.length → (∀ p ∈ ps, PySem.W.findIn X.K (.ref C) p = some none) →
      fs.length + ps.length ≤ 900 → Inv X pins σ (fldH H a C dx fs) s → (∀ s', Inv X pins σ (fldH H a C dx ((ps.zip ws).reverse ++ fs)) s' → Q .next s') → _root_.PySem.wpAt (model X.prog X.w) A c (execs sts env) Q E s
  | [], _, ws, fs, k, s, .nil, _, hlen, _, _, I, hq => by
    refine _root_.PySem.wpAt_of_wpAny (wpAny_execs_nil (hq s ?_))
    simpa using I
  | p :: ps, _, ws, fs, k, s, .cons hs t, hp, hlen, hno, h9, I, hq => by
    cases ws with
    | nil => cases hlen
    | cons w ws =>
      obtain ⟨hN, v, hw, hv⟩ := hp 0 p rfl
      cases hw
      have inN : p ∈ X.N := List.mem_of_getElem? hN
      obtain ⟨v1, v2, v3, v4⟩ := hloc p inN
      obtain ⟨z1, z2, z3, z4⟩ := hloc "self" (List.mem_of_getElem? hself)
      refine ks_wpAt_execs_cons (ks_wpAt_Assign_Attr (_root_.PySem.wpAt_of_wpAny (ld_own I hl hk hN hv v1 v2 v3 v4 fun u ru => ld_own I hl hk hself hv0 z1 z2 z3 z4 fun u0 r0 => ?_)) hs)
      obtain rfl : u0 = Value.ref a := r0
      rw [List.length_cons] at h9
      refine ost_old T I fldH_a (fldH_d hda) (by omega) (hno p (List.mem_cons_self ..)) ru fun s' J => ?_
      rw [fldH_up hda] at J
      refine asgs_more T hl hk hda (n := n) hself hv0 hloc ps _ ws ((p, w) :: fs) (k + 1) s' t (fun j q hj => ?_) (by simpa using hlen) (fun q hq' => hno q (List.mem_cons_of_mem _ hq')) (by rw [List.length_cons]; omega) J fun s'' J2 => hq s'' ?_
      · have := hp (j + 1) q hj
        rwa [show k + (j + 1) = k + 1 + j by omega] at this
      · rw [List.zip_cons_cons, List.reverse_cons, List.append_assoc]
        exact J2
/-- the arguments' names -/
inductive Nms : List Str → List Expr → Prop
  | nil : Nms [] []
  | cons {p : Str} {ps : List Str} {es : List Expr} {r : Pos} (t : Nms ps es) : Nms (p :: ps) (.Name p r :: es)
theorem nms_plain {pos : Pos} {env : Env} : ∀ {ps : List Str} {es : List Expr}, Nms ps es → (backTo pos (starEach es env)).any (·.1) = false
  | _, _, .nil => rfl
  | _, _, .cons t => by
    show (false || (backTo pos (starEach _ env)).any (·.1)) = false
    rw [nms_plain t]
    rfl
theorem nms_ok (I : Inv X pins σ H s) (hl : env.locals = X.env.locals) (hk : env.scope.kind = .function) (hloc : ∀ y ∈ X.N, Vis X.env.scope y ∧ X.env.kindOf y = some .local ∧ env.kindOf y = some .local ∧ (y == ("__debug__" : Str)) = false) {pos : Pos} :
    ∀ (ps : List Str) (es : List Expr) (ws : List V) (k : Nat) (Q : List Value → Shared → Prop), Nms ps es → (∀ j p, ps[j]? = some p → X.N[k + j]? = some p ∧ ∃ v, ws[j]? = some v ∧ σ[k + j]? = some (some v)) → ps.length = ws.length →
      (∀ us, Vals ws us → Q us s) → wpAny (model X.prog X.w) A (spliced (backTo pos (starEach es env))) Q E s
  | [], _, ws, k, Q, .nil, _, hlen, hq => by
    cases ws with
    | cons w ws => cases hlen
    | nil => exact Calls.spliced_nil (hq [] .nil)
  | p :: ps, _, ws, k, Q, .cons t, hp, hlen, hq => by
    cases ws with
    | nil => cases hlen
    | cons w ws =>
      obtain ⟨hN, v, hw, hv⟩ := hp 0 p rfl
      cases hw
      obtain ⟨v1, v2, v3, v4⟩ := hloc p (List.mem_of_getElem? hN)
      refine Calls.spliced_cons (ld_own I hl hk hN hv v1 v2 v3 v4 fun u ru => ?_)
      refine nms_ok I hl hk hloc ps _ ws (k + 1) _ t (fun j q hj => ?_) (by simpa using hlen) fun us hus => hq (u :: us) (.cons ru hus)
      have := hp (j + 1) q hj
      rwa [show k + (j + 1) = k + 1 + j by omega] at this
end
def spI (K : PySem.W.Frag) (C : Addr) (ps : List Str) : Sp := fun vs H Q _ => ∃ a ws, vs = .ref a :: ws ∧ ws.length = ps.length ∧ H a = some (exo a C none) ∧ ∀ dx, H dx = none → dx ≠ a → Q .non (fldH H a C dx (ps.zip ws).reverse)
theorem bind_rev {kindOf : Str → Option NameKind} : ∀ (bs : List (Str × Value)) (m : Str → Option Value), (∀ b ∈ bs, kindOf b.1 = some .local) → (bs.map (·.1)).Nodup → ∀ y, bindL kindOf bs m y = (bs.reverse.lookup y).or (m y)
  | [], m, _, _, y => rfl
  | (n, v) :: bs, m, hk, nd, y => by
    have h1 := hk (n, v) (List.mem_cons_self ..)
    rw [List.map_cons, List.nodup_cons] at nd
    unfold bindL
    rw [if_pos h1, bind_rev bs _ (fun b hb => hk b (List.mem_cons_of_mem _ hb)) nd.2 y, List.reverse_cons, List.lookup_append]
    by_cases hy : y = n
    · subst hy
      simp
    · have e : (y == n) = false := by simpa using hy
      simp [List.lookup, e, hy]
theorem all_local (y : Str) : ∀ ps : List Str, y ∈ ps → (ps.map fun p => (p, NameKind.local)).lookup y = some .local
  | p :: ps, h => by
    rw [List.map_cons]
    by_cases e : y = p
    · subst e
      simp [List.lookup]
    · have e' : (y == p) = false := by simpa using e
      simp only [List.lookup, e']
      exact all_local y ps (by
        rcases List.mem_cons.mp h with z | z
        · exact absurd z e
        · exact z)
theorem no_cells (n : Nat) : ∀ ps : List Str, cellsFrom n (ps.map fun p => (p, NameKind.local)) [] = []
  | [] => rfl
  | p :: ps => no_cells n ps
theorem sc_of {scope : Scope} {ps : List Str} (hk : scope.kind = .function) (hco : scope.isCoroutine = false) (hgen : scope.isGenerator = false) (nd : ps.Nodup) : FnScope ps ps (scL scope ps) :=
  ⟨hk, hco, hgen, nd, List.take_length, fun x hx => .inl (all_local x ps hx), fun y hy => by
    obtain ⟨p, _, rfl⟩ := List.mem_map.mp hy
    intro z
    cases z⟩
theorem fn_super {P : Program} {w : World} {K : PySem.W.Frag} {mg : Str → Option Value} {base : Heap} {CX : CXT} {k : Nat} {C f cc cda : Addr} {file : Str} (W : InitK K C f cc cda file) {name qual : Str} {params : Arguments} {scope : Scope} {dV kV doc pm ct : Value} {an : Option Addr} {oc : Value} {od : Option Addr} {osl : Array (Option Value)}
    {p : Str} {ps : List Str} {es : List Expr} {sts : List Stmt} {q0 q1 q2 q4 q5 : Pos} (hes : Nms (p :: ps) es) (hst : ∀ L, Asgs (PySem.W.ksEnv qual scope L f (.ref cda) cc) (p :: ps) sts)
    (lk : K.lookup f = some ⟨oc, od, .func (PySem.W.ksFn name qual params (.Expr (.Call (.Attribute (.Call (.Name "super" q0) [] [] q1) "__init__" q2) es [] q4) q5 :: sts) scope dV kV doc pm an (.ref cda) ct cc), osl⟩) (hcd : PySem.W.codeIn K (.ref cda) qual = true)
    {pl : Addr → Sem Bool} (he : ∀ L, eval (.Call (.Attribute (.Call (.Name "super" q0) [] [] q1) "__init__" q2) es [] q4) (PySem.W.ksEnv qual scope L f (.ref cda) cc) = (do
      let ov ← attributeBase (.Call (.Name "super" q0) [] [] q1) "__init__" (PySem.W.ksEnv qual scope L f (.ref cda) cc) (eval (.Call (.Name "super" q0) [] [] q1) (PySem.W.ksEnv qual scope L f (.ref cda) cc))
      standAt q2.atName
      let (gg, first) ← holding [ov] (getMethod ov "__init__" (pl L))
      callWith q4 gg first (backTo q4 (starEach es (PySem.W.ksEnv qual scope L f (.ref cda) cc))) []))
    (hi : ∀ L, interactive (PySem.W.ksEnv qual scope L f (.ref cda) cc) = false) (hsw : ∀ L, swapsWith (.Call (.Attribute (.Call (.Name "super" q0) [] [] q1) "__init__" q2) es [] q4) none q5.line (PySem.W.ksEnv qual scope L f (.ref cda) cc) = pure false)
    {ar : Arg} (hp : (params.posonlyargs ++ params.args).head? = some ar) (har : ar.arg = "self") (hfile : ((P.main.file : Str) == file) = true) (hms : mg "super" = none) (htop : (P.main.scope.names.lookup ("super" : Str)).isSome = false)
    (hks : scope.names.lookup ("super" : Str) = some .globalImplicit) (hkc : scope.names.lookup ("__class__" : Str) = some .free) (hk : scope.kind = .function) (hco : scope.isCoroutine = false) (hgen : scope.isGenerator = false) (hcell : ∀ x ∈ scope.names, x.2 ≠ .cell)
    (hloc : ∀ y ∈ ("self" : Str) :: p :: ps, scope.names.lookup y = some .local ∧ (y == ("__debug__" : Str)) = false) (nd : (("self" : Str) :: p :: ps).Nodup) (hno : ∀ y ∈ p :: ps, PySem.W.findIn K (.ref C) y = some none) (h9 : (p :: ps).length ≤ 900) :
    FnOk P w K mg base CX (k + 1) f (PySem.W.ksFn name qual params (.Expr (.Call (.Attribute (.Call (.Name "super" q0) [] [] q1) "__init__" q2) es [] q4) q5 :: sts) scope dV kV doc pm an (.ref cda) ct cc) (("self" : Str) :: p :: ps) (spI K C (p :: ps)) := by
  refine ⟨fun vs H Q E ⟨a, ws, e, hl, _⟩ => by rw [e, List.length_cons, hl]; rfl, fun A outer s H args us vs Q E hr e0 hb r hsp => ?_⟩
  obtain ⟨a, ws, rfl, hlen, ea, hq⟩ := hsp
  have KX : K.In s.heap := e0.mod.kin.keeps fun b o e => (e0.bs b o e).1
  have lim : s.heap.NoLimit := e0.mod.nolimit.keeps fun b o e => (e0.bs b o e).1
  have hul : us.length = (("self" : Str) :: p :: ps).length := by rw [← r.length, List.length_cons, hlen]; rfl
  have hzip : ((("self" : Str) :: p :: ps).zip us).map (·.1) = ("self" : Str) :: p :: ps := List.map_fst_zip (by omega)
  refine ks_codeAny_call_defAt hr.depth (KX _ _ lk) rfl lim (PySem.W.codeRec_of KX hcd) rfl hb hcell (fun x hx => (hloc x.1 (by rw [← hzip]; exact List.mem_map_of_mem hx)).1) (fun h1 hns hkk => ?_) hco hgen hk
  have S := sc_of (scope := scope) hk hco hgen nd
  have nsE : bindL (envOfC qual (scL scope (("self" : Str) :: p :: ps)) s.heap.objs.size f (.ref cda)).kindOf ((("self" : Str) :: p :: ps).zip us) (fun _ => none) = fun x => ((("self" : Str) :: p :: ps).zip us).reverse.lookup x := by
    funext y
    rw [bind_rev _ _ (fun b hb' => all_local b.1 _ (by rw [← hzip]; exact List.mem_map_of_mem hb')) (by rw [hzip]; exact nd) y]
    cases (((("self" : Str) :: p :: ps).zip us).reverse.lookup y) <;> rfl
  have hl : (V.ref a :: ws).length = (("self" : Str) :: p :: ps).length := by rw [List.length_cons, hlen]; rfl
  have x : InCallC s s.heap.objs.size (bindL (envOfC qual (scL scope (("self" : Str) :: p :: ps)) s.heap.objs.size f (.ref cda)).kindOf ((("self" : Str) :: p :: ps).zip us) fun _ => none) (cellsFrom (s.heap.objs.size + 1) (scL scope (("self" : Str) :: p :: ps)).names [])
      (bindC (envOfC qual (scL scope (("self" : Str) :: p :: ps)) s.heap.objs.size f (.ref cda)).kindOf ((("self" : Str) :: p :: ps).zip us) fun _ => none) { s with heap := h1, toks := s.toks + ((("self" : Str) :: p :: ps).zip us).length } := by
    have nc : cellsFrom (s.heap.objs.size + 1) (scL scope (("self" : Str) :: p :: ps)).names [] = [] := no_cells _ _
    rw [nc, nsE]
    exact ⟨⟨⟨h1, _, rfl⟩, hns, hkk, Nat.le_refl _⟩, fun n c z => (by cases z), List.Pairwise.nil, fun n c z => (by cases z)⟩
  have I := inv_start (CX := CX) (E := E) S hr.hd e0 hl r x
  have hv0 : (L2.start (("self" : Str) :: p :: ps) (V.ref a :: ws))[0]? = some (some (.ref a)) := rfl
  have hvj : ∀ j q, (p :: ps)[j]? = some q → (("self" : Str) :: p :: ps)[1 + j]? = some q ∧ ∃ v, ws[j]? = some v ∧ (L2.start (("self" : Str) :: p :: ps) (V.ref a :: ws))[1 + j]? = some (some v) := fun j q hj => by
    have jl : j < (p :: ps).length := (List.getElem?_eq_some_iff.mp hj).1
    have jw : j < ws.length := by rw [hlen]; exact jl
    refine ⟨by rw [Nat.add_comm, List.getElem?_cons_succ]; exact hj, ws[j], List.getElem?_eq_getElem jw, ?_⟩
    unfold L2.start
    rw [List.getElem?_append_left (by simp; omega), List.getElem?_map, Nat.add_comm, List.getElem?_cons_succ, List.getElem?_eq_getElem jw]
    rfl
  have hlc : ∀ y ∈ (("self" : Str) :: p :: ps), Vis (scL scope (("self" : Str) :: p :: ps)) y ∧ (envOfC qual (scL scope (("self" : Str) :: p :: ps)) s.heap.objs.size f (.ref cda)).kindOf y = some .local ∧ (PySem.W.ksEnv qual scope s.heap.objs.size f (.ref cda) cc).kindOf y = some .local ∧ (y == ("__debug__" : Str)) = false := fun y hy =>
    ⟨.inl (all_local y _ hy), all_local y _ hy, (hloc y hy).1, (hloc y hy).2⟩
  show _root_.PySem.wpAt (model P w) _ _ (execs _ (PySem.W.ksEnv qual scope s.heap.objs.size f (.ref cda) cc)) _ _ _
  refine ks_wpAt_execs_cons (ks_wpAt_Expr_any (ks_wpAt_MethodCall (pl := pl s.heap.objs.size) ?_ (he _)) (hi _) (hsw _))
  have lst := hst s.heap.objs.size
  refine super_ok (X := cxOf CX P w K mg base (("self" : Str) :: p :: ps) qual (scL scope (("self" : Str) :: p :: ps)) f (.ref cda) A outer s H E) W I ea lk hp rfl (by rw [har]; rfl) hv0 (by rw [har]; exact (hlc _ (List.mem_cons_self ..)).1) (by rw [har]; exact (hlc _ (List.mem_cons_self ..)).2.1)
    hfile hms hks hkc (by rw [har]; exact (hloc _ (List.mem_cons_self ..)).1) hk htop fun so s1 I1 hso => ?_
  refine bound_ok W I1 ea hso fun q s2 I2 hmw hsz => ?_
  have hr2 : ws.length ≤ sizeLine := by
    rw [hlen, sizeLine_eq]
    omega
  cases lst with
  | @cons _ _ sts' r0 r1 r2' r3 hs tst =>
    have go : ∀ s3, Inv (cxOf CX P w K mg base (("self" : Str) :: p :: ps) qual (scL scope (("self" : Str) :: p :: ps)) f (.ref cda) A outer s H E) [] (L2.start (("self" : Str) :: p :: ps) (V.ref a :: ws)) H s3 →
        _root_.PySem.wpAt (model P w) (A.deeper (callEnv (PySem.W.ksFn name qual params (.Expr (.Call (.Attribute (.Call (.Name "super" q0) [] [] q1) "__init__" q2) es [] q4) q5 :: .Assign [.Attribute (.Name "self" r0) p r1] (.Name p r2') r3 :: sts') scope dV kV doc pm an (.ref cda) ct cc) s.heap.objs.size f)) (.func (.Expr (.Call (.Attribute (.Call (.Name "super" q0) [] [] q1) "__init__" q2) es [] q4) q5 :: .Assign [.Attribute (.Name "self" r0) p r1] (.Name p r2') r3 :: sts') (PySem.W.ksEnv qual scope s.heap.objs.size f (.ref cda) cc))
          (execs (.Assign [.Attribute (.Name "self" r0) p r1] (.Name p r2') r3 :: sts') (PySem.W.ksEnv qual scope s.heap.objs.size f (.ref cda) cc)) (fun fl s' => CR CX outer P w H s Q E (.ok (.ret (match fl with | .ret v => v | _ => .none))) s')
          (fun e s' => wpAny (model P w) (A.deeper (callEnv (PySem.W.ksFn name qual params (.Expr (.Call (.Attribute (.Call (.Name "super" q0) [] [] q1) "__init__" q2) es [] q4) q5 :: .Assign [.Attribute (.Name "self" r0) p r1] (.Name p r2') r3 :: sts') scope dV kV doc pm an (.ref cda) ct cc) s.heap.objs.size f)) (leaving (callEnv (PySem.W.ksFn name qual params (.Expr (.Call (.Attribute (.Call (.Name "super" q0) [] [] q1) "__init__" q2) es [] q4) q5 :: .Assign [.Attribute (.Name "self" r0) p r1] (.Name p r2') r3 :: sts') scope dV kV doc pm an (.ref cda) ct cc) s.heap.objs.size f) e) (fun _ s'' => CR CX outer P w H s Q E (.error e) s'') (fun e' s'' => CR CX outer P w H s Q E (.error e') s'') s') s3 := by
      intro s3 I3
      cases ws with
      | nil => cases hlen
      | cons w1 ws =>
        obtain ⟨gN, v, hv1, gv⟩ := hvj 0 p rfl
        cases hv1
        obtain ⟨v1, v2, v3, v4⟩ := hlc p (by simp)
        obtain ⟨z1, z2, z3, z4⟩ := hlc ("self" : Str) (List.mem_cons_self ..)
        refine ks_wpAt_execs_cons (ks_wpAt_Assign_Attr (_root_.PySem.wpAt_of_wpAny (ld_own (env := PySem.W.ksEnv qual scope s.heap.objs.size f (.ref cda) cc) I3 rfl hk gN gv v1 v2 v3 v4 fun u ru => ld_own (env := PySem.W.ksEnv qual scope s.heap.objs.size f (.ref cda) cc) I3 rfl hk rfl hv0 z1 z2 z3 z4 fun u0 ru0 => ?_)) hs)
        obtain rfl : u0 = Value.ref a := ru0
        refine ost_new W.T I3 ea (hno p (List.mem_cons_self ..)) ru fun dx s4 hn hda J => ?_
        refine asgs_more (env := PySem.W.ksEnv qual scope s.heap.objs.size f (.ref cda) cc) W.T rfl hk hda (n := 0) rfl hv0 hlc ps sts' ws [(p, w1)] 2 s4 tst (fun j y hj => ?_) (by simpa using hlen.symm) (fun y hy => hno y (List.mem_cons_of_mem _ hy)) (by rw [List.length_singleton]; rw [List.length_cons] at h9; omega) J fun s5 J5 => ?_
        · have := hvj (j + 1) y hj
          rwa [show 1 + (j + 1) = 2 + j by omega] at this
        · refine ⟨.non, _, J5.os, J5.bare, J5.base, J5.hok, rfl, ?_⟩
          have := hq dx hn hda
          rw [List.zip_cons_cons, List.reverse_cons] at this
          exact this
    refine PySem.W.kxs_callWith (i := "ValueError.__init__") (x := a) (nms_plain hes) ?_
    cases hes with
    | @cons _ _ es' r tn =>
      refine Calls.evalArgs_plain (nms_ok (env := PySem.W.ksEnv qual scope s.heap.objs.size f (.ref cda) cc) I2 rfl hk hlc (p :: ps) _ ws 1 _ (.cons (r := r) tn) hvj hlen.symm fun us' hus => ⟨hmw, ?_⟩)
      exact bcall_ok W I2 ea hmw (by rw [List.nil_append, ← hus.length]; exact hr2) fun s3 I3 => go s3 I3
end Zd

set_option Elab.async false
set_option linter.all false
set_option maxRecDepth 100000
set_option maxHeartbeats 4000000
namespace Zd
open PySem PySem.Spec PyProof.Rows L2
/-! ### what may raise, over plain data: an exception is the result exD x ds, which no value is -/
def exD (x : Str) (ds : List D) : D := .dict [(.str x, .tuple ds)]
theorem exD_no {K : PySem.W.Frag} {H : Hp} {v : V} {x : Str} {ds : List D} : ¬ Dq K H v (exD x ds) := fun h => by cases h
/-- the program's own exception classes: name, fields -/
abbrev XT := List (Str × List Str)
def ExAt (K : PySem.W.Frag) (mg : Str → Option Value) (T : XT) (n : En) (H H0 : Hp) (cls : Value) (d : Option Addr) (x : Str) (ds : List D) : Prop :=
  ∃ C ps dd vs, mg x = some (.ref C) ∧ T.lookup x = some ps ∧ cls = .ref C ∧ d = some dd ∧ H dd = some (.xd (ps.zip vs).reverse) ∧ ps.length = vs.length ∧ DqAll K H0 vs ds ∧ H0 dd = none ∧ n.He dd = none
def tSx (K : PySem.W.Frag) (mg : Str → Option Value) (T : XT) (J : Jr) (W : WX) (q : QS) : TS := fun D σ H => ∃ (n : En) (H0 : Hp) (ρ : List Sl) (E : EndD), Rp K J n σ H H0 ρ ∧ q E ρ ∧
  (∀ σ' H' H0' ρ', Rp K J n σ' H' H0' ρ' → Same H0 H0' → E.nx ρ' → D.nx σ' H') ∧ (∀ v σ' H' H0' r ρ', Rp K J n σ' H' H0' ρ' → Same H0 H0' → ResOk K n σ' ρ' H' H0' v r → E.rt r ρ' → D.rt v H') ∧
  (∀ σ' H' H0' ρ', Rp K J n σ' H' H0' ρ' → Same H0 H0' → E.bk ρ' → D.bk σ' H') ∧ (∀ σ' H' H0' ρ', Rp K J n σ' H' H0' ρ' → Same H0 H0' → E.ct ρ' → D.ct σ' H') ∧
  (∀ σ' H' H0' ρ' cls d x ds, Rp K J n σ' H' H0' ρ' → Same H0 H0' → ExAt K mg T n H' H0' cls d x ds → E.rt (.da (exD x ds)) ρ' → W cls d σ' H')
def tRx (K : PySem.W.Frag) (mg : Str → Option Value) (T : XT) (J : Jr) (W : WX) (q : QR) : TE := fun σ H Q => ∃ (n : En) (H0 : Hp) (ρ : List Sl) (P : Sl → List Sl → Prop), Rp K J n σ H H0 ρ ∧ q ρ P ∧
  (∀ v H' H0' r ρ', Rp K J n σ H' H0' ρ' → Same H0 H0' → ResOk K n σ ρ' H' H0' v r → P r ρ' → Q v H') ∧
  (∀ H' H0' ρ' cls d x ds, Rp K J n σ H' H0' ρ' → Same H0 H0' → ExAt K mg T n H' H0' cls d x ds → P (.da (exD x ds)) ρ' → W cls d σ H')
section
variable {X : Cx} {J : Jr} {T : XT} {W : WX} {e a b c tg iter : Expr} {es : List Expr} {pos : Pos} {st : Stmt} {sts : List Stmt}
abbrev PSx (J : Jr) (T : XT) (W : WX) (X : Cx) (st : Stmt) (q : QS) : Prop := PS X st (tSx X.K X.mg T J W q)
abbrev PSsx (J : Jr) (T : XT) (W : WX) (X : Cx) (sts : List Stmt) (q : QS) : Prop := PSs X sts (tSx X.K X.mg T J W q)
abbrev PRx (J : Jr) (T : XT) (W : WX) (X : Cx) (e : Expr) (q : QR) : Prop := PE X e (tRx X.K X.mg T J W q)
theorem psx_lift {q : QS} (h : PSd J X st q) : PSx J T W X st q := ps_mono h fun D σ H ⟨n, H0, ρ, E, R, w, k1, k2, k3, k4, _⟩ => ⟨n, H0, ρ, E, R, w, k1, k2, k3, k4⟩
theorem prx_lift {q : QR} (h : PR J X e q) : PRx J T W X e q := pe_mono h fun σ H Q ⟨n, H0, ρ, P, R, w, k, _⟩ => ⟨n, H0, ρ, P, R, w, k⟩
theorem pssx_nil : PSsx J T W X [] qNext := pss_mono pss_nil fun D σ H ⟨n, H0, ρ, E, R, w, k, _⟩ => k σ H H0 ρ R (.refl _) w
theorem pssx_cons {q r : QS} (h : PSx J T W X st q) (h2 : PSsx J T W X sts r) : PSsx J T W X (st :: sts) (qSeq q r) := pss_mono (pss_cons h h2) fun D σ H ⟨n, H0, ρ, E, R, w, k1, k2, k3, k4, k5⟩ =>
  ⟨n, H0, ρ, _, R, w, fun σ1 H1 H01 ρ1 R1 S1 w1 => ⟨n, H01, ρ1, E, R1, w1, fun σ' H' H0' ρ' R' S' z => k1 σ' H' H0' ρ' R' (S1.trans S') z, fun v σ' H' H0' r ρ' R' S' => k2 v σ' H' H0' r ρ' R' (S1.trans S'), fun σ' H' H0' ρ' R' S' z => k3 σ' H' H0' ρ' R' (S1.trans S') z, fun σ' H' H0' ρ' R' S' z => k4 σ' H' H0' ρ' R' (S1.trans S') z,
    fun σ' H' H0' ρ' cls d x ds R' S' => k5 σ' H' H0' ρ' cls d x ds R' (S1.trans S')⟩, k2, k3, k4, k5⟩
theorem psx_ret {q : QR} (h : PRx J T W X e q) : PSx J T W X (.Return (some e) pos) (qRet q) := ps_mono (ps_ret h) fun D σ H ⟨n, H0, ρ, E, R, w, _, k, _, _, k5⟩ =>
  ⟨n, H0, ρ, _, R, w, fun v H' H0' r ρ' R' S' hr hp => k v σ H' H0' r ρ' R' S' hr hp, fun H' H0' ρ' cls d x ds R' S' hx hp => k5 σ H' H0' ρ' cls d x ds R' S' hx hp⟩
theorem psx_if {qc : QT} {q r : QS} {sa sb : List Stmt} (hc : PB J X c qc) (h1 : PSsx J T W X sa q) (h2 : PSsx J T W X sb r) : PSx J T W X (.If c sa sb pos) (qIfS qc q r) := ps_mono (ps_if hc h1 h2) fun D σ H ⟨n, H0, ρ, E, R, w, k1, k2, k3, k4, k5⟩ =>
  ⟨n, H0, ρ, _, R, w, fun x H1 H01 ρ1 R1 S1 w1 => by
    have go : ∀ q : QS, q E ρ1 → tSx X.K X.mg T J W q D σ H1 := fun q w1 => ⟨n, H01, ρ1, E, R1, w1, fun σ' H' H0' ρ' R' S' z => k1 σ' H' H0' ρ' R' (S1.trans S') z, fun v σ' H' H0' r ρ' R' S' => k2 v σ' H' H0' r ρ' R' (S1.trans S'), fun σ' H' H0' ρ' R' S' z => k3 σ' H' H0' ρ' R' (S1.trans S') z, fun σ' H' H0' ρ' R' S' z => k4 σ' H' H0' ρ' R' (S1.trans S') z,
      fun σ' H' H0' ρ' cls d x ds R' S' => k5 σ' H' H0' ρ' cls d x ds R' (S1.trans S')⟩
    cases x with
    | true => exact go q w1
    | false => exact go r w1⟩
/-- an expression statement, an assignment, whose value may be an exception -/
def exOf (r : Sl) (f : QS) (E : EndD) (ρ : List Sl) : Prop := match r with
  | .da (.dict kv) => E.rt (.da (.dict kv)) ρ
  | _ => f E ρ
def qDropX (q : QR) : QS := fun E ρ => q ρ fun r ρ' => exOf r qNext E ρ'
theorem exOf_val {K : PySem.W.Frag} {n : En} {σ : L2.St} {ρ : List Sl} {H H0 : Hp} {v : V} {r : Sl} {f : QS} {E : EndD} {ρ' : List Sl} (h : ResOk K n σ ρ H H0 v r) (w : exOf r f E ρ') : f E ρ' := by
  cases r with
  | da d =>
    cases d with
    | dict kv => cases h
    | _ => exact w
  | _ => exact w
theorem psx_expr {q : QR} (h : PRx J T W X e q) (hs : swapsWith e none pos.line X.env = pure false := by rfl) : PSx J T W X (.Expr e pos) (qDropX q) := ps_mono (ps_expr h hs) fun D σ H ⟨n, H0, ρ, E, R, w, k, _, _, _, k5⟩ =>
  ⟨n, H0, ρ, _, R, w, fun v H' H0' r ρ' R' S' hr hp => k σ H' H0' ρ' R' S' (exOf_val hr hp), fun H' H0' ρ' cls d x ds R' S' hx hp => k5 σ H' H0' ρ' cls d x ds R' S' hx hp⟩
def qSetX (i : Nat) (q : QR) : QS := fun E ρ => q ρ fun r ρ' => exOf r (fun E ρ' => E.nx (ρ'.set i r)) E ρ'
theorem psx_set {i : Nat} {q : QR} {x : Str} {pos' : Pos} (hN : X.N.Nodup) (hi : X.N[i]? = some x) (hx : Loc X.env.scope x) (he : PRx J T W X e q) (hs : swapsWith e (some (.Name x pos')) pos.line X.env = pure false := by rfl)
    (hf : X.fn x = true ∨ X.env.scope.names.lookup x = some .local := by first | exact .inl rfl | exact .inr rfl | assumption) : PSx J T W X (.Assign [.Name x pos'] e pos) (qSetX i q) :=
  ps_mono (ps_set hN hi hx he hs hf) fun D σ H ⟨n, H0, ρ, E, R, w, k, _, _, _, k5⟩ =>
    ⟨n, H0, ρ, _, R, w, fun v H' H0' r ρ' R' S' hr hp => k _ H' H0' _ (R'.put hr i) S' (exOf_val (f := fun E ρ' => E.nx (ρ'.set i r)) hr hp), fun H' H0' ρ' cls d x ds R' S' hx hp => k5 σ H' H0' ρ' cls d x ds R' S' hx hp⟩
theorem psx_for {is : List Nat} {qi : QL} {g : QG} {q : QS} {body : List Stmt} (hp : PassesOwn (model X.prog X.w) X.A X.env X.xe) (hc : X.calm = true) (hi : PIt J X tg iter qi) (hg : PGd J X tg is g) (hb : PSsx J T W X body q)
    (hs : ∀ x, foldedSetIterable iter X.env x = pure x := by intro _; rfl) : PSx J T W X (.For tg iter body [] pos) (qFor qi g q) := ps_mono (ps_for hp hc hi hg hb hs) fun D σ H ⟨n, H0, ρ, E, R, w, k1, k2, k3, k4, k5⟩ => by
  refine ⟨n, H0, ρ, _, R, w, fun J' H1 H01 items ρ1 R1 S1 ⟨i1, i2, i3⟩ w1 => ?_⟩
  refine ⟨fun i m σ H => m = items.length - i ∧ i ≤ items.length ∧ ∃ H0c ρc, Rp X.K J n σ H H0c ρc ∧ Same H01 H0c ∧ loopD g q E (items.drop i) ρc, ⟨items.length, by simp, Nat.zero_le _, H01, ρ1, R1, .refl _, w1⟩, ?_⟩
  rintro i m σc Hc ⟨rfl, hle, H0c, ρc, Rc, Sc, wc⟩
  have same : Same H01 Hc := Sc.trans Rc.sub
  by_cases hi : i < items.length
  · have ed : items.drop i = items[i] :: items.drop (i + 1) := List.drop_eq_getElem_cons hi
    rw [ed] at wc
    refine .inr ⟨i1 i Hc same hi, fun σ' H' => ∃ H0c ρc, Rp X.K J n σ' H' H0c ρc ∧ Same H01 H0c ∧ loopD g q E (items.drop (i + 1)) ρc, fun σ' H' ⟨H0d, ρd, Rd, Sd, wd⟩ => ⟨items.length - (i + 1), by omega, rfl, hi, H0d, ρd, Rd, Sd, wd⟩, fun x H' hy => ?_⟩
    have go : ∀ H0e, Rp X.K J n σc H' H0e ρc → Same H01 H0e → Dq X.K H0e x items[i] → tG X.K J is g x σc H' fun σ2 H2 => tSx X.K X.mg T J W q { D with
        nx := fun σ' H' => ∃ H0c ρc, Rp X.K J n σ' H' H0c ρc ∧ Same H01 H0c ∧ loopD g q E (items.drop (i + 1)) ρc, ct := fun σ' H' => ∃ H0c ρc, Rp X.K J n σ' H' H0c ρc ∧ Same H01 H0c ∧ loopD g q E (items.drop (i + 1)) ρc, bk := D.nx } σ2 H2 := fun H0e Re Se hd =>
      ⟨n, H0e, ρc, items[i], _, Re, hd, wc, fun σ2 ρ2 R2 _ w2 => ⟨n, H0e, ρ2, _, R2, w2, fun σ' H' H0' ρ' R' S' z => ⟨H0', ρ', R', Se.trans S', z⟩, fun v σ' H' H0' r ρ' R' S' => k2 v σ' H' H0' r ρ' R' ((S1.trans Se).trans S'),
        fun σ' H' H0' ρ' R' S' z => k1 σ' H' H0' ρ' R' ((S1.trans Se).trans S') z, fun σ' H' H0' ρ' R' S' z => ⟨H0', ρ', R', Se.trans S', z⟩,
        fun σ' H' H0' ρ' cls d x ds R' S' => k5 σ' H' H0' ρ' cls d x ds R' ((S1.trans Se).trans S')⟩⟩
    rcases i3 i Hc H0c x H' items[i] Sc Rc.sub (List.getElem?_eq_getElem hi) hy with ⟨rfl, hd⟩ | ⟨T, xs, hT, rfl, hd⟩
    · exact go H0c Rc Sc hd
    · exact go _ (Rc.alloc hT) (Sc.trans (same_up (Rc.h0 hT))) hd
  · have ei : i = items.length := by omega
    subst ei
    rw [List.drop_length] at wc
    exact .inl ⟨i2 _ Hc same (Nat.le_refl _), k1 σc Hc H0c ρc Rc (S1.trans Sc) wc⟩
theorem psx_while {qc : QT} {q : QS} {body : List Stmt} (hp : PassesOwn (model X.prog X.w) X.A X.env X.xe) (hc : PB J X c qc) (hb : PSsx J T W X body q) : PSx J T W X (.While c body [] pos) (qWhile qc q) := ps_mono (ps_while hp hc hb) fun D σ H ⟨n, H0, ρ, E, R, ⟨Wh, ⟨m0, w0⟩, turn⟩, k1, k2, k3, k4, k5⟩ => by
  refine ⟨fun m σ H => ∃ H0c ρc, Rp X.K J n σ H H0c ρc ∧ Same H0 H0c ∧ Wh m ρc, ⟨m0, H0, ρ, R, .refl _, w0⟩, ?_⟩
  rintro m σc Hc ⟨H0c, ρc, Rc, Sc, wc⟩
  refine ⟨n, H0c, ρc, _, Rc, turn m ρc wc, fun x H1 H01 ρ1 R1 S1 w1 => ?_⟩
  cases x with
  | true =>
    exact ⟨fun σ' H' => ∃ m', m' < m ∧ ∃ H0c ρc, Rp X.K J n σ' H' H0c ρc ∧ Same H0 H0c ∧ Wh m' ρc, fun σ' H' ⟨m', h1, h2⟩ => ⟨m', h1, h2⟩, n, H01, ρ1, _, R1, w1, fun σ' H' H0' ρ' R' S' ⟨m', h1, h2⟩ => ⟨m', h1, H0', ρ', R', (Sc.trans S1).trans S', h2⟩, fun v σ' H' H0' r ρ' R' S' => k2 v σ' H' H0' r ρ' R' ((Sc.trans S1).trans S'),
      fun σ' H' H0' ρ' R' S' z => k1 σ' H' H0' ρ' R' ((Sc.trans S1).trans S') z, fun σ' H' H0' ρ' R' S' ⟨m', h1, h2⟩ => ⟨m', h1, H0', ρ', R', (Sc.trans S1).trans S', h2⟩,
      fun σ' H' H0' ρ' cls d x ds R' S' => k5 σ' H' H0' ρ' cls d x ds R' ((Sc.trans S1).trans S')⟩
  | false => exact k1 σc H1 H01 ρ1 R1 (Sc.trans S1) w1
end
/-! ### raise C(e, ..) -/
structure XcOk (P : Program) (w : World) (K : PySem.W.Frag) (mg : Str → Option Value) (base : Heap) (x : Str) (ps : List Str) : Prop where
  ex : ∃ C fI fd, OexC K C ∧ PySem.W.findIn K (.ref C) "__init__" = some (some (.ref fI)) ∧ PySem.W.typeIn K (.ref fI) = some (.type "function") ∧ FnOk P w K mg base CX0 1 fI fd (("self" : Str) :: ps) (spI K C ps) ∧ Binds K fd (("self" : Str) :: ps) [] ∧ mg x = some (.ref C)
theorem del_upd {H : Hp} {a dx C : Addr} {fs : List (Str × V)} {o o' : HO} (ha : H a = none) (hda : dx ≠ a) : upd (del (fldH (upd H a o) a C dx fs) a) dx o' = upd H dx o' := by
  funext b
  by_cases hb : b = dx
  · rw [hb, upd_same, upd_same]
  · rw [upd_ne hb, upd_ne hb]
    by_cases hba : b = a
    · rw [hba, del_same, ha]
    · rw [del_ne hba]
      unfold fldH
      rw [upd_ne hba, upd_ne hb, upd_ne hba]
section
variable {X : Cx} {J : Jr} {T : XT} {W : WX} {e a b c tg iter : Expr} {es : List Expr} {pos : Pos} {st : Stmt} {sts : List Stmt}
def qRaise (x : Str) (qa : QL) : QS := fun E ρ => qa ρ fun ds ρ' => E.rt (.da (exD x ds)) ρ'
theorem psx_raise {x : Str} {ps : List Str} {m : Nat} {qa : QL} {p : Pos} {kr : Nat} (hc : X.calm = true) (tk : Takes X W) (G : XcOk X.prog X.w X.K X.mg X.base x ps) (hT : T.lookup x = some ps) (hps : ps.length = m) (hm : m ≤ 1000) (hr : Room kr X.A) (hkr : 2 ≤ kr) (hg : Gl X x) (ha : PL J X (e :: es) m qa)
    (hdb : (x == ("__debug__" : Str)) = false := by decide) (he : starEach (e :: es) X.env = (false, eval e X.env) :: starEach es X.env := by rfl) (hpl : (backTo pos (starEach es X.env)).any (·.1) = false := by rfl) {pos' : Pos} :
    PSx J T W X (.Raise (some (.Call (.Name x p) (e :: es) [] pos)) none pos') (qRaise x qa) := by
  obtain ⟨C, fI, fd, TC, iC, tI, F1, hb, hmg⟩ := G.ex
  refine ps_mono (ps_raise hc tk (pmk_oex TC iC tI F1 (hr.mono hkr) hb .nil pass0 hg hmg ha hdb he hpl)) fun D σ H ⟨n, H0, ρ, E, R, w, k1, k2, k3, k4, k5⟩ => ?_
  refine ⟨n, H0, ρ, _, R, w, fun vs H1 H01 ds ρ1 R1 S1 hd hl w1 => ?_⟩
  have lv : vs.length = m := by rw [dpa_len hd, hl]
  refine ⟨by omega, fun a ha => ?_⟩
  rw [List.append_nil]
  refine ⟨a, vs, rfl, by rw [lv, hps], upd_same, fun dx hdx hda => ⟨rfl, dx, _, fldH_a, fldH_d hda, ?_, ?_⟩⟩
  · rwa [upd_ne hda] at hdx
  · rw [upd_ne hda] at hdx
    rw [del_upd ha hda]
    exact k5 σ _ H01 ρ1 (.ref C) (some dx) x ds (R1.laid hdx) S1 ⟨C, ps, dx, vs, hmg, hT, rfl, rfl, upd_same, by rw [lv, hps], hd, R1.h0 hdx, R1.he0 hdx⟩ w1
end
/-! ### a def that may raise -/
def RetEx (K : PySem.W.Frag) (mg : Str → Option Value) (T : XT) (J : Jr) (n : En) (H : Hp) (cls : Value) (d : Option Addr) (x : Str) (ds : List D) : Prop :=
  ∃ H0, Same H0 H ∧ (∀ a o, a ∉ n.as → n.He a = some o → H a = some o) ∧ Same n.H0 H0 ∧ (∀ a, n.H0 a = none → n.He a ≠ none → H0 a = none) ∧ (n.as ≠ [] → J.is n.as n.jv H) ∧ ExAt K mg T n H H0 cls d x ds
def spX (K : PySem.W.Frag) (mg : Str → Option Value) (T : XT) (J : Jr) (pp : PPr) : Sp := fun vs H Q E => ∃ (H0 : Hp) (as : List Addr) (jv : V) (gs : List Ag), Same H0 H ∧ (as ≠ [] → J.is as jv H) ∧ (∀ a ∈ as, H0 a = none ∧ H a ≠ none) ∧
  Paired (AgOk K H0 as jv) vs gs ∧ ∃ R : Sl → Prop, pp gs R ∧ (∀ r v H', R r → RetOk K J ⟨H, H0, as, jv⟩ H' v r → Q v H') ∧ ∀ x ds cls d H', R (.da (exD x ds)) → RetEx K mg T J ⟨H, H0, as, jv⟩ H' cls d x ds → E cls d H'
theorem Rp.callE {K : PySem.W.Frag} {mg : Str → Option Value} {T : XT} {J : Jr} {n : En} {σ : L2.St} {H H0 : Hp} {ρ : List Sl} {H' : Hp} {cls : Value} {d : Option Addr} {x : Str} {ds : List D} (hj : J.jx = none) (R : Rp K J n σ H H0 ρ) (h : RetEx K mg T J ⟨H, H0, n.as, n.jv⟩ H' cls d x ds) :
    ∃ H0', Same H0 H0' ∧ Rp K J n σ H' H0' ρ ∧ ExAt K mg T n H' H0' cls d x ds := by
  obtain ⟨H0', h1, h2, h3, h4, h5, C, ps, dd, vs, e1, e2, e3, e4, e5, e6, e7, e8, e9⟩ := h
  have h2 : ∀ (a : Addr) (o : HO), a ∉ n.as → H a = some o → H' a = some o := h2
  have h3 : Same H0 H0' := h3
  have h4 : ∀ (a : Addr), H0 a = none → H a ≠ none → H0' a = none := h4
  have h5 : n.as ≠ [] → J.is n.as n.jv H' := h5
  have na : ∀ a, n.He a = none → a ∉ n.as := fun a e ha => (R.jdom a ha).2 e
  have e9 : H dd = none := e9
  refine ⟨H0', h3, ⟨R.len, h1, fun i s e => ?_, R.sep, fun a o ha e => h2 a o ha (R.fr a o ha e), R.base.trans h3, fun a e1 e2 => h4 a (R.fresh a e1 e2) (R.hej e2), h5, R.jdom, R.jx⟩, C, ps, dd, vs, e1, e2, e3, e4, e5, e6, e7, e8, R.he0 e9⟩
  have q := R.sl i s e
  cases s with
  | un => trivial
  | da d => obtain ⟨u, w1, w2⟩ := q; exact ⟨u, w1, dp_mono h3 d u w2⟩
  | ow ds =>
    obtain ⟨a, xs, w1, w2, w3, w4, w5⟩ := q
    exact ⟨a, xs, w1, h2 a _ (na a w5) w2, dpa_mono h3 _ xs w3, h4 a w4 (by rw [w2]; intro z; cases z), w5⟩
  | od ds =>
    obtain ⟨a, xs, w1, w2, w3, w4, w5⟩ := q
    exact ⟨a, xs, w1, h2 a _ (na a w5) w2, dpa_mono h3 _ xs w3, h4 a w4 (by rw [w2]; intro z; cases z), w5⟩
  | ja => exact q
  | jo c => exact absurd ((R.jx i c e).symm.trans hj) (by intro z; cases z)
theorem Rp.retE {K : PySem.W.Frag} {mg : Str → Option Value} {T : XT} {J : Jr} {n : En} {σ : L2.St} {H H0 : Hp} {ρ : List Sl} {cls : Value} {d : Option Addr} {x : Str} {ds : List D} (R : Rp K J n σ H H0 ρ) (h : ExAt K mg T n H H0 cls d x ds) : RetEx K mg T J n H cls d x ds :=
  ⟨H0, R.sub, R.fr, R.base, R.fresh, R.jar, h⟩
structure CalX (P : Program) (w : World) (K : PySem.W.Frag) (mg : Str → Option Value) (base : Heap) (T : XT) (J : Jr) (k : Nat) (x : Str) (st : Stmt) (ps : List Str) (pp : PPr) : Prop where
  nj : J.jx = none
  ex : ∃ f fd, FnOk P w K mg base (L2.CX P w) k f fd ps (spX K mg T J pp) ∧ mg x = some (.ref f) ∧ FnP K x st f fd ∧ Binds K fd ps []
section
variable {X : Cx} {J : Jr} {T : XT} {W : WX} {e a b c tg iter : Expr} {es : List Expr} {pos : Pos} {st : Stmt} {sts : List Stmt}
/-- what a call gives back, handed to the wish -/
theorem called {pp : PPr} {n : En} {σ : L2.St} {H1 H01 H0f : Hp} {ρ1 : List Sl} {as : List A} {P : Sl → List Sl → Prop} {Q : VK} {S0 : Hp → Prop} (hj : J.jx = none) (R1 : Rp X.K J n σ H1 H01 ρ1) (Rf : Rp X.K J n σ H1 H0f (frzs ρ1 as)) (Sf : Same H01 H0f)
    (k : ∀ v H' H0' r ρ', Rp X.K J n σ H' H0' ρ' → Same H01 H0' → ResOk X.K n σ ρ' H' H0' v r → P r ρ' → Q v H') {r : Sl} {v : V} {H' : Hp} (hb : behind ρ1 as P r) (hr : RetOk X.K J ⟨H1, H0f, n.as, n.jv⟩ H' v r) : Q v H' := by
  have gen : P r (frzs ρ1 as) → Q v H' := fun hp => by
    obtain ⟨H0', S', R', hres⟩ := Rf.call hj hr
    exact k v H' H0' r _ R' (Sf.trans S') hres hp
  cases r with
  | da d =>
    have hb' : if flatD d = true then P (.da d) ρ1 else P (.da d) (frzs ρ1 as) := hb
    by_cases f : flatD d = true
    · rw [if_pos f] at hb'
      have R' := R1.callF hj Rf hr
      obtain ⟨H0', _, _, _, _, _, h6⟩ := hr
      exact k v H' H01 (.da d) ρ1 R' (.refl _) (flat_any h6 f) hb'
    · rw [if_neg f] at hb'
      exact gen hb'
  | un => exact gen hb
  | ow ds => exact gen hb
  | od ds => exact gen hb
  | ja => exact gen hb
  | jo c => exact gen hb
theorem prx_call {pp : PPr} {qa : QA} {k k' : Nat} {ps : List Str} {x : Str} {st : Stmt} {p : Pos} (tk : Takes X W) (C : CalX X.prog X.w X.K X.mg X.base T J k x st ps pp) (hr : Room k' X.A) (hk : k ≤ k') (hg : Gl X x)
    (ha : PAa J X (e :: es) qa) (hdb : (x == ("__debug__" : Str)) = false := by decide) (he : starEach (e :: es) X.env = (false, eval e X.env) :: starEach es X.env := by rfl) (hpl : (backTo pos (starEach es X.env)).any (·.1) = false := by rfl) :
    PRx J T W X (.Call (.Name x p) (e :: es) [] pos) (qCall pp qa) := by
  obtain ⟨f, fd, F, hm, G, hb⟩ := C.ex
  refine pe_mono (pe_callS F (hr.mono hk) hg hm G.kp hb (fun σ => passAt tk σ) ha hdb he hpl) fun σ H Q ⟨n, H0, ρ, P, R, w, k, kx⟩ => ?_
  refine ⟨n, H0, ρ, _, R, w, fun vs H1 H01 as ρ1 R1 S1 hav ⟨gs, hgs, w1⟩ => ?_⟩
  obtain ⟨H0f, Sf, Rf, hf⟩ := Rp.args (.refl H01) as ρ1 H01 vs gs R1 hav hgs
  refine ⟨H0f, n.as, n.jv, gs, Rf.sub, R1.jar, Rf.jarOk, hf, _, w1, fun r v H' hb' hr' => ?_, fun x ds cls d H' hb' hx => ?_⟩
  · exact called (S0 := fun _ => True) (pp := pp) C.nj R1 Rf Sf (fun v H' H0' r ρ' R' S' hres hp => k v H' H0' r ρ' R' (S1.trans S') hres hp) hb' hr'
  · obtain ⟨H0', S', R', hex⟩ := Rf.callE C.nj hx
    exact kx H' H0' _ cls d x ds R' ((S1.trans Sf).trans S') hex hb'
end
/-! ### the def's rule; a call where nothing may leave -/
theorem start_rpA {K : PySem.W.Frag} {J : Jr} {H H0 : Hp} {N : List Str} {vs : List V} {gs : List Ag} {as : List Addr} {jv : V} (h1 : Same H0 H) (h2 : as ≠ [] → J.is as jv H) (h3 : ∀ a ∈ as, H0 a = none ∧ H a ≠ none) (h4 : Paired (AgOk K H0 as jv) vs gs) :
    Rp K J ⟨H, H0, as, jv⟩ (L2.start N vs) H H0 (startD N.length gs) := by
  have hlen := pair_len h4
  refine ⟨?_, h1, fun i s e => ?_, fun i j ds es _ e _ => ?_, fun a o _ e => e, .refl _, fun a e _ => e, h2, h3, fun i c e => ?_⟩
  · unfold L2.start startD
    rw [List.length_append, List.length_append, List.length_map, List.length_map, List.length_replicate, List.length_replicate, hlen]
  · unfold startD at e
    by_cases q : i < gs.length
    · rw [List.getElem?_append_left (by rw [List.length_map]; exact q), List.getElem?_map] at e
      have hs : (L2.start N vs)[i]? = vs[i]?.map some := by
        unfold L2.start
        rw [List.getElem?_append_left (by rw [List.length_map, hlen]; exact q), List.getElem?_map]
      cases z : gs[i]? with
      | none => rw [z] at e; cases e
      | some g =>
        rw [z] at e
        cases e
        obtain ⟨v, w1, w2⟩ := pair_get h4 z
        cases g with
        | d x => exact ⟨v, by rw [hs, w1]; rfl, w2⟩
        | j => exact ⟨by rw [hs, w1, w2.1]; rfl, w2.2⟩
    · rw [List.getElem?_append_right (by rw [List.length_map]; omega), List.getElem?_replicate] at e
      split at e
      · cases e; trivial
      · cases e
  · unfold startD at e
    by_cases q : i < gs.length
    · rw [List.getElem?_append_left (by rw [List.length_map]; exact q), List.getElem?_map] at e
      cases z : gs[i]? with
      | none => rw [z] at e; cases e
      | some g => rw [z] at e; cases g <;> cases e
    · rw [List.getElem?_append_right (by rw [List.length_map]; omega), List.getElem?_replicate] at e
      split at e <;> cases e
  · exfalso
    unfold startD at e
    by_cases q : i < gs.length
    · rw [List.getElem?_append_left (by rw [List.length_map]; exact q), List.getElem?_map] at e
      cases z : gs[i]? with
      | none => rw [z] at e; cases e
      | some g => rw [z] at e; cases g <;> cases e
    · rw [List.getElem?_append_right (by rw [List.length_map]; omega), List.getElem?_replicate] at e
      split at e <;> cases e
theorem defX_ok {P : Program} {w : World} {K : PySem.W.Frag} {mg : Str → Option Value} {base : Heap} {T : XT} {J : Jr} {x : Str} {st : Stmt} {f : Addr} {fd : FuncData} {N ps : List Str} {k : Nat} {pp : PPr} {qs : QS} (hj : J.jx = none) (F : FnP K x st f fd) (hx : mg x = some (.ref f)) (S : FnScope N ps (defScope st)) (hB : Binds K fd ps [])
    (hl : ∀ gs R, pp gs R → gs.length = ps.length) (hb : ∀ (cdv : Value) (A : Around) (outer : List Env) (s : Shared) (H : Hp) (E : XK), Room k (A.deeper (envOfC x (defScope st) s.heap.objs.size f cdv)) →
      Takes (cxOf (L2.CX P w) P w K mg base N x (defScope st) f cdv A outer s H E) (fun cls d _ H => E cls d H) →
      PassesOwn (model P w) (cxOf (L2.CX P w) P w K mg base N x (defScope st) f cdv A outer s H E).A (cxOf (L2.CX P w) P w K mg base N x (defScope st) f cdv A outer s H E).env (cxOf (L2.CX P w) P w K mg base N x (defScope st) f cdv A outer s H E).xe →
      PSsx J T (fun cls d _ H => E cls d H) (cxOf (L2.CX P w) P w K mg base N x (defScope st) f cdv A outer s H E) (defBody st) qs)
    (spec : ∀ gs R, pp gs R → qs ⟨fun _ => R (.da .none), fun r _ => R r, fun _ => False, fun _ => False⟩ (startD N.length gs)) : CalX P w K mg base T J (k + 1) x st ps pp := by
  refine ⟨hj, f, fd, ?_, hx, F, hB⟩
  refine FunD.ok F S (fun vs H Q E ⟨H0, as, jv, gs, _, _, _, h, R, h2, _⟩ => by rw [pair_len h]; exact hl gs R h2) (fun cdv A outer s H vs Q E hr z => ?_)
  obtain ⟨H0, as, jv, gs, h1, h2, h3, h4, R, h5, h6, h7⟩ := z
  refine ⟨_, hb cdv A outer s H E hr (takes_of rfl rfl rfl rfl) (passes_of rfl), ⟨H, H0, as, jv⟩, H0, startD N.length gs, ⟨fun _ => R (.da .none), fun r _ => R r, fun _ => False, fun _ => False⟩, start_rpA h1 h2 h3 h4, spec gs R h5,
    fun σ' H' H0' ρ' R' S' z => h6 (.da .none) .non H' z (R'.ret (r := .da .none) Dq.non), fun v σ' H' H0' r ρ' R' S' hr z => h6 r v H' z (R'.ret hr), fun _ _ _ _ _ _ z => z, fun _ _ _ _ _ _ z => z, fun σ' H' H0' ρ' cls d x ds R' S' hx z => h7 x ds cls d H' z (R'.retE hx)⟩
section
variable {X : Cx} {J : Jr} {T : XT} {W : WX} {e a b c tg iter : Expr} {es : List Expr} {pos : Pos} {st : Stmt} {sts : List Stmt}
def noEx (r : Sl) (p : Prop) : Prop := match r with
  | .da (.dict _) => False
  | _ => p
def qCallN (pp : PPr) (qa : QA) : QR := fun ρ P => qCall pp qa ρ fun r ρ' => noEx r (P r ρ')
theorem noEx_val {K : PySem.W.Frag} {n : En} {σ : L2.St} {ρ : List Sl} {H H0 : Hp} {v : V} {r : Sl} {p : Prop} (h : ResOk K n σ ρ H H0 v r) (w : noEx r p) : p := by
  cases r with
  | da d =>
    cases d with
    | dict kv => cases h
    | _ => exact w
  | _ => exact w
theorem pr_callN {pp : PPr} {qa : QA} {k k' : Nat} {ps : List Str} {x : Str} {st : Stmt} {p : Pos} (C : CalX X.prog X.w X.K X.mg X.base T J k x st ps pp) (hr : Room k' X.A) (hk : k ≤ k') (hg : Gl X x)
    (ha : PAa J X (e :: es) qa) (hdb : (x == ("__debug__" : Str)) = false := by decide) (he : starEach (e :: es) X.env = (false, eval e X.env) :: starEach es X.env := by rfl) (hpl : (backTo pos (starEach es X.env)).any (·.1) = false := by rfl) :
    PR J X (.Call (.Name x p) (e :: es) [] pos) (qCallN pp qa) :=
  pe_mono (prx_call (W := fun _ _ _ _ => False) takes_none5 C hr hk hg ha hdb he hpl) fun σ H Q ⟨n, H0, ρ, P, R, w, k⟩ =>
    ⟨n, H0, ρ, fun r ρ' => noEx r (P r ρ'), R, w, fun v H' H0' r ρ' R' S' hres hp => k v H' H0' r ρ' R' S' hres (noEx_val hres hp), fun H' H0' ρ' cls d x ds R' S' hx hp => hp⟩
end
/-! ### try: .. except C as e: .. -/
/-- in the suite: e's slot is the drawing thing, its cell the exception's dict -/
def jex (J : Jr) (n : En) (a dd : Addr) (fs : List (Str × V)) : Jr where
  is := fun as v H => as = dd :: n.as ∧ v = .ref a ∧ H dd = some (.xd fs) ∧ (n.as ≠ [] → J.is n.as n.jv H)
  loc := fun {as v H H'} h kt ⟨e1, e2, e3, e4⟩ => by
    subst e1
    exact ⟨rfl, e2, by rw [h dd (List.mem_cons_self ..)]; exact e3, fun z => J.loc (fun b hb => h b (List.mem_cons_of_mem _ hb)) kt (e4 z)⟩
  dom := fun {as v H} ⟨e1, e2, e3, e4⟩ b hb => by
    subst e1
    rcases List.mem_cons.mp hb with z | z
    · rw [z, e3]
      intro q
      cases q
    · exact J.dom (e4 (by intro q; rw [q] at z; cases z)) b z
def noJ (ρ : List Sl) : Prop := ∀ s ∈ ρ, match s with
  | .ja => False
  | .jo _ => False
  | _ => True
def exEn (n : En) (a dd : Addr) (fs : List (Str × V)) : En := ⟨upd n.He dd (.xd fs), n.H0, dd :: n.as, .ref a⟩
section
variable {K : PySem.W.Frag} {J : Jr} {n : En} {σ : L2.St} {H H0 : Hp} {ρ : List Sl} {a dd : Addr} {fs : List (Str × V)} {i : Nat}
theorem Rp.enterX (R : Rp K J n σ H H0 ρ) (hn : noJ ρ) (hi : i < ρ.length) (hd : H dd = some (.xd fs)) (h0 : H0 dd = none) (he : n.He dd = none) : Rp K (jex J n a dd fs) (exEn n a dd fs) (σ.set i (some (.ref a))) H H0 (ρ.set i .ja) := by
  have R1 := R.forget i (some (V.ref a))
  have hnn : n.H0 dd = none := by
    cases e : n.H0 dd with
    | none => rfl
    | some o => rw [R.base dd o e] at h0; cases h0
  refine ⟨by rw [List.length_set, List.length_set]; exact R.len, R.sub, fun j s e => ?_, fun j k ds es hjk e1 e2 => ?_, fun b o hb e => ?_, R.base, fun b e1 e2 => ?_, fun _ => ⟨rfl, rfl, hd, R.jar⟩, fun b hb => ?_, fun j c e => ?_⟩
  · by_cases hj : j = i
    · subst hj
      rw [List.getElem?_set_self hi] at e
      cases e
      refine ⟨?_, by intro z; cases z⟩
      rw [List.getElem?_set_self (by rw [R.len]; exact hi)]
      rfl
    · have q := R1.sl j s (by rw [List.getElem?_set_ne (fun z => hj z.symm)] at e ⊢; exact e)
      have em : s ∈ ρ := by
        rw [List.getElem?_set_ne (fun z => hj z.symm)] at e
        exact List.mem_of_getElem? e
      have ns := hn s em
      cases s with
      | un => trivial
      | da d => exact q
      | ow ds =>
        obtain ⟨c, xs, q1, q2, q3, q4, q5⟩ := q
        refine ⟨c, xs, q1, q2, q3, q4, ?_⟩
        show upd n.He dd (.xd fs) c = none
        rw [upd_ne (fun z => by rw [z, hd] at q2; cases q2)]
        exact q5
      | od ds =>
        obtain ⟨c, xs, q1, q2, q3, q4, q5⟩ := q
        refine ⟨c, xs, q1, q2, q3, q4, ?_⟩
        show upd n.He dd (.xd fs) c = none
        rw [upd_ne (fun z => by rw [z, hd] at q2; cases q2)]
        exact q5
      | ja => exact ns.elim
      | jo c => exact ns.elim
  · have f1 : (ρ.set i Sl.un)[j]? = some (Sl.ow ds) := by
      by_cases hj : j = i
      · subst hj; rw [List.getElem?_set_self hi] at e1; cases e1
      · rw [List.getElem?_set_ne (fun z => hj z.symm)] at e1 ⊢; exact e1
    have f2 : (ρ.set i Sl.un)[k]? = some (Sl.ow es) := by
      by_cases hk : k = i
      · subst hk; rw [List.getElem?_set_self hi] at e2; cases e2
      · rw [List.getElem?_set_ne (fun z => hk z.symm)] at e2 ⊢; exact e2
    exact R1.sep j k ds es hjk f1 f2
  · have hb' : b ∉ dd :: n.as := hb
    have e' : upd n.He dd (.xd fs) b = some o := e
    rw [upd_ne (fun z => hb' (by rw [z]; exact List.mem_cons_self ..))] at e'
    exact R.fr b o (fun z => hb' (List.mem_cons_of_mem _ z)) e'
  · have e2' : upd n.He dd (.xd fs) b ≠ none := e2
    by_cases z : b = dd
    · rw [z]; exact h0
    · rw [upd_ne z] at e2'
      exact R.fresh b e1 e2'
  · have hb' : b ∈ dd :: n.as := hb
    show n.H0 b = none ∧ upd n.He dd (.xd fs) b ≠ none
    by_cases z : b = dd
    · rw [z, upd_same]
      exact ⟨hnn, by intro q; cases q⟩
    · rw [upd_ne z]
      rcases List.mem_cons.mp hb' with q | q
      · exact absurd q z
      · exact R.jdom b q
  · exfalso
    by_cases hj : j = i
    · subst hj; rw [List.getElem?_set_self hi] at e; cases e
    · rw [List.getElem?_set_ne (fun z => hj z.symm)] at e
      exact hn _ (List.mem_of_getElem? e)
/-- behind the suite -/
theorem Rp.leaveX {σ' : L2.St} {H' H0' : Hp} {ρ' : List Sl} (hj : ∀ b ∈ n.as, n.H0 b = none ∧ n.He b ≠ none) (he : n.He dd = none) (R : Rp K (jex J n a dd fs) (exEn n a dd fs) σ' H' H0' ρ') (hn : noJ (ρ'.set i .un)) : Rp K J n (σ'.set i none) H' H0' (ρ'.set i .un) := by
  have R1 := R.forget i none
  have J1 := R.jar (by intro z; cases z)
  have na : ∀ b ∈ n.as, b ≠ dd := fun b hb z => (hj b hb).2 (by rw [z]; exact he)
  refine ⟨R1.len, R1.sub, fun j s e => ?_, R1.sep, fun b o hb e => ?_, R1.base, fun b e1 e2 => ?_, fun z => J1.2.2.2 z, hj, fun j c e => ?_⟩
  · have q := R1.sl j s e
    have ns := hn s (List.mem_of_getElem? e)
    cases s with
    | un => trivial
    | da d => exact q
    | ow ds =>
      obtain ⟨c, xs, q1, q2, q3, q4, q5⟩ := q
      have q5 : upd n.He dd (.xd fs) c = none := q5
      refine ⟨c, xs, q1, q2, q3, q4, ?_⟩
      by_cases z : c = dd
      · rw [z]; exact he
      · rw [upd_ne z] at q5; exact q5
    | od ds =>
      obtain ⟨c, xs, q1, q2, q3, q4, q5⟩ := q
      have q5 : upd n.He dd (.xd fs) c = none := q5
      refine ⟨c, xs, q1, q2, q3, q4, ?_⟩
      by_cases z : c = dd
      · rw [z]; exact he
      · rw [upd_ne z] at q5; exact q5
    | ja => exact ns.elim
    | jo c => exact ns.elim
  · have bd : b ≠ dd := fun z => by rw [z, he] at e; cases e
    refine R1.fr b o (fun z => ?_) (show upd n.He dd (.xd fs) b = some o by rw [upd_ne bd]; exact e)
    rcases List.mem_cons.mp (show b ∈ dd :: n.as from z) with q | q
    · exact bd q
    · exact hb q
  · have bd : b ≠ dd := fun z => e2 (by rw [z]; exact he)
    exact R1.fresh b e1 (show upd n.He dd (.xd fs) b ≠ none by rw [upd_ne bd]; exact e2)
  · exact (hn _ (List.mem_of_getElem? e)).elim
end
def EndX (i : Nat) (E : EndD) : EndD := ⟨fun ρ => noJ (ρ.set i .un) ∧ E.nx (ρ.set i .un), fun r ρ => noJ (ρ.set i .un) ∧ E.rt r (ρ.set i .un), fun ρ => noJ (ρ.set i .un) ∧ E.bk (ρ.set i .un), fun ρ => noJ (ρ.set i .un) ∧ E.ct (ρ.set i .un)⟩
def exTry (i : Nat) (sub : Str → Bool) (qh : Str → List D → QS) (E : EndD) (r : Sl) (ρ : List Sl) : Prop := match r with
  | .da (.dict kv) => ∃ x ds, kv = [(.str x, .tuple ds)] ∧ sub x = true ∧ ds.all flatD = true ∧ noJ ρ ∧ i < ρ.length ∧ qh x ds (EndX i E) (ρ.set i .ja)
  | r => E.rt r ρ
def qTry (i : Nat) (sub : Str → Bool) (qb : QS) (qh : Str → List D → QS) : QS := fun E ρ => qb { E with rt := exTry i sub qh E } ρ
theorem dpa_flat {K : PySem.W.Frag} {H H1 : Hp} : ∀ {ds : List D} {vs : List V}, ds.all flatD = true → DqAll K H vs ds → DqAll K H1 vs ds
  | [], _, _, h => by cases h; exact .nil
  | d :: ds, _, f, h => by
    rw [List.all_cons, Bool.and_eq_true] at f
    cases h with
    | cons h1 h2 => exact .cons (flat_any h1 f.1) (dpa_flat f.2 h2)
theorem res_leaveX {K : PySem.W.Frag} {n : En} {a dd : Addr} {fs : List (Str × V)} {σ : L2.St} {H H0 : Hp} {ρ : List Sl} {v : V} {r : Sl} {i : Nat} (he : n.He dd = none) (h : ResOk K (exEn n a dd fs) σ ρ H H0 v r) : ResOk K n (σ.set i none) (ρ.set i .un) H H0 v r := by
  cases r with
  | da d => exact h
  | ow ds =>
    obtain ⟨b, xs, h1, h2, h3, h4, h5, h6⟩ := h
    have h5 : upd n.He dd (.xd fs) b = none := h5
    refine ⟨b, xs, h1, h2, h3, h4, ?_, fun j es e z => ?_⟩
    · by_cases q : b = dd
      · rw [q]; exact he
      · rw [upd_ne q] at h5; exact h5
    · by_cases q : j = i
      · subst q
        by_cases hl : j < σ.length
        · rw [List.getElem?_set_self hl] at z; cases z
        · rw [List.getElem?_eq_none (by rw [List.length_set]; omega)] at z; cases z
      · rw [List.getElem?_set_ne (fun w => q w.symm)] at e z
        exact h6 j es e z
  | od ds =>
    obtain ⟨b, xs, h1, h2, h3, h4, h5, h6⟩ := h
    have h5 : upd n.He dd (.xd fs) b = none := h5
    refine ⟨b, xs, h1, h2, h3, h4, ?_, fun j es e z => ?_⟩
    · by_cases q : b = dd
      · rw [q]; exact he
      · rw [upd_ne q] at h5; exact h5
    · by_cases q : j = i
      · subst q
        by_cases hl : j < σ.length
        · rw [List.getElem?_set_self hl] at z; cases z
        · rw [List.getElem?_eq_none (by rw [List.length_set]; omega)] at z; cases z
      · rw [List.getElem?_set_ne (fun w => q w.symm)] at e z
        exact h6 j es e z
  | un => exact h
  | ja => exact h
  | jo c => exact h
section
variable {X : Cx} {J : Jr} {T : XT} {e a b c tg iter : Expr} {es : List Expr} {pos : Pos} {st : Stmt} {sts : List Stmt}
theorem psd_try_as {i : Nat} {cx nm : Str} {cv : Value} {body suite : List Stmt} {b₀ : Stmt} {np pos' : Pos} {qb : QS} {qh : Str → List D → QS} (sub : Str → Bool) (hs : X.stack = X.env :: X.outer) (hf : X.env.frame = some X.env.locals) (hN : X.N.Nodup) (hi : X.N[i]? = some nm) (hln : X.env.kindOf nm = some .local) (hc : Names X cx cv)
    (hsub : ∀ x C ps, T.lookup x = some ps → X.mg x = some (.ref C) → PySem.W.exmOne X.K (.ref C) cv = some (sub x))
    (hb : ∀ (W : WX) (pn : List (Addr × Obj)) (xe : Value → Shared → Prop), Takes (X.tr pn xe) W → PassesOwn (model X.prog X.w) X.A X.env xe → PSsx J T W (X.tr pn xe) body qb)
    (hsu : ∀ (a : Addr) (oe : Obj) (pn : List (Addr × Obj)) (n : En) (x : Str) (C : Addr) (ps : List Str) (dd : Addr) (vs : List V) (ds : List D), Zc (.ref C) (some dd) oe → (∃ vs, oe.data = .fields vs) → X.mg x = some (.ref C) → T.lookup x = some ps → sub x = true → ps.length = vs.length → (∀ H0, DqAll X.K H0 vs ds) →
      PSsd (jex J n a dd (ps.zip vs).reverse) (X.suite a ((a, oe) :: pn)) (b₀ :: suite) (qh x ds)) :
    PSd J X (.Try body [.ExceptHandler (some (.Name cx np)) (some nm) (b₀ :: suite) pos'] [] [] pos) (qTry i sub qb qh) := by
  refine ps_mono (ps_try_as (Wout := fun _ _ _ _ => False) (tb := fun W => tSx X.K X.mg T J W qb) (ts := fun a cls d DD σ H => ∃ (n : En) (x : Str) (C : Addr) (ps : List Str) (dd : Addr) (vs : List V) (ds : List D),
    cls = .ref C ∧ d = some dd ∧ X.mg x = some (.ref C) ∧ T.lookup x = some ps ∧ sub x = true ∧ ps.length = vs.length ∧ (∀ H0, DqAll X.K H0 vs ds) ∧ tS X.K (jex J n a dd (ps.zip vs).reverse) (qh x ds) DD σ H)
    hs hf hN hi hln hc takes_none5 hb fun a oe cls d pn hz hfl => ⟨fun pins s σ H D I ⟨n, x, C, ps, dd, vs, ds, e1, e2, e3, e4, e5, e6, e7, z⟩ => ?_⟩) fun D σ H ⟨n, H0, ρ, E, R, w, k1, k2, k3, k4⟩ => ?_
  · subst e1 e2
    exact (hsu a oe pn n x C ps dd vs ds hz hfl e3 e4 e5 e6 e7).run pins s σ H D I z
  refine ⟨n, H0, ρ, _, R, w, k1, fun v σ' H' H0' r ρ' R' S' hr z => ?_, k3, k4, fun σ' H' H0' ρ' cls d x ds R' S' hx z => ?_⟩
  · refine k2 v σ' H' H0' r ρ' R' S' hr ?_
    cases r with
    | da d =>
      cases d with
      | dict kv => cases hr
      | _ => exact z
    | _ => exact z
  · obtain ⟨C, ps, dd, vs, g1, g2, g3, g4, g5, g6, g7, g8, g9⟩ := hx
    obtain ⟨x', ds', ekv, hsx, hfl, hnj, hil, z⟩ := z
    cases ekv
    refine ⟨sub x, by rw [g3]; exact hsub x C ps g2 g1, fun _ a ha => ?_, fun hfalse => by rw [hsx] at hfalse; cases hfalse⟩
    refine ⟨n, x, C, ps, dd, vs, ds, g3, g4, g1, g2, hsx, g6, fun H0 => dpa_flat hfl g7, exEn n a dd (ps.zip vs).reverse, H0', _, _, R'.enterX hnj hil g5 g8 g9, z, fun σ6 H6 H06 ρ6 R6 S6 z6 => ?_, fun v σ6 H6 H06 r ρ6 R6 S6 hr z6 => ?_, fun σ6 H6 H06 ρ6 R6 S6 z6 => ?_, fun σ6 H6 H06 ρ6 R6 S6 z6 => ?_⟩
    · exact k1 _ _ _ _ (Rp.leaveX R'.jdom g9 R6 z6.1) (S'.trans S6) z6.2
    · exact k2 v (σ6.set i none) H6 H06 r _ (Rp.leaveX R'.jdom g9 R6 z6.1) (S'.trans S6) (res_leaveX g9 hr) z6.2
    · exact k3 _ _ _ _ (Rp.leaveX R'.jdom g9 R6 z6.1) (S'.trans S6) z6.2
    · exact k4 _ _ _ _ (Rp.leaveX R'.jdom g9 R6 z6.1) (S'.trans S6) z6.2
/-- e.f in the suite -/
def qXf (i : Nat) (d : D) : QD := fun ρ P => ρ[i]? = some .ja ∧ P d ρ
theorem pd_xf {n : En} {a C dd : Addr} {fs : List (Str × V)} {oe : Obj} {pn : List (Addr × Obj)} {i : Nat} {f : Str} {v : V} {d : D} {o : Expr} (hT : XfC X.K C) (hno : PySem.W.findIn X.K (.ref C) f = some none) (hz : Zc (.ref C) (some dd) oe) (hfl : ∃ vs, oe.data = .fields vs)
    (ho : PE (X.suite a ((a, oe) :: pn)) o (tVar i)) (hl : fs.lookup f = some v) (hd : ∀ H0, Dq X.K H0 v d) (hb : attributeBase o f X.env (eval o X.env) = eval o X.env := by rfl) :
    PD (jex J n a dd fs) (X.suite a ((a, oe) :: pn)) (.Attribute o f pos) (qXf i d) :=
  pe_mono (pe_xf hT hno hz hfl ho hb) fun σ H Q ⟨m, H0, ρ, P, R, ⟨hj, hp⟩, k⟩ => by
    have q := R.sl i _ hj
    obtain ⟨q1, q2⟩ := q
    obtain ⟨j1, j2, j3, j4⟩ := R.jar q2
    refine ⟨_, q1, by rw [j2], rfl, dd, fs, v, rfl, j3, hl, k v H H0 d ρ R (.refl _) (hd H0) hp⟩
/-- isinstance(e, C) in the suite -/
def rIsX (K : PySem.W.Frag) (C a dd : Addr) (fs : List (Str × V)) : List V → Hp → VK → Prop := fun xs H Q => ∃ (c : V) (cv : Value) (b : Bool), xs = [.ref a, c] ∧ (∀ u, RelV c u → u = cv) ∧ PySem.W.kitOne K (.ref C) cv = some b ∧ H dd = some (.xd fs) ∧ Q (.bl b) H
/-- .. with a tuple of classes -/
def rIsXt (K : PySem.W.Frag) (C a dd : Addr) (fs : List (Str × V)) : List V → Hp → VK → Prop := fun xs H Q => ∃ (p : Addr) (cs : List V) (cvs : List Value) (b : Bool), xs = [.ref a, .ref p] ∧ SqT K H p cs ∧ (∀ us, Vals cs us → us = cvs) ∧ PySem.W.kitAny K (.ref C) cvs = some b ∧ H dd = some (.xd fs) ∧ Q (.bl b) H
theorem xd_inst {Y : Cx} {pins : List (Addr × Obj)} {σ : L2.St} {H : Hp} {s : Shared} {a C dd : Addr} {fs : List (Str × V)} {oe : Obj} (I : Inv Y pins σ H s) (hget : s.heap.get? a = some oe) (hz : Zc (.ref C) (some dd) oe) (hf : ∃ vs, oe.data = .fields vs) (hdd : H dd = some (.xd fs)) :
    ∃ od, PySem.W.InstAt s.heap a oe C (some od) := by
  have hx : ObjOk Y.prog Y.w H s.heap dd (.xd fs) := I.hok dd _ hdd
  obtain ⟨mA, hns, hr⟩ := hx
  obtain ⟨od, ho, hl⟩ := lookIn_ns hns
  obtain ⟨vs, hd⟩ := hf
  exact ⟨od, hget, hz.1, by unfold PySem.W.notCls; rw [hd] <;> rfl, by rw [hz.2]; exact ho⟩
theorem call_isX {a C dd : Addr} {fs : List (Str × V)} {oe : Obj} {pn : List (Addr × Obj)} (G : ExcC X.K C) (hz : Zc (.ref C) (some dd) oe) (hf : ∃ vs, oe.data = .fields vs) : CallR (X.suite a ((a, oe) :: pn)) (.builtin "isinstance") (rIsX X.K C a dd fs) := by
  intro pins s σ H xs us Q I r h
  obtain ⟨c, cv, b, rfl, hcv, e, hdd, q⟩ := h
  cases r with
  | cons rx rr =>
    cases rr with
    | cons rt rr =>
      cases rr
      cases rx
      have ec := hcv _ rt
      subst ec
      obtain ⟨hget, _⟩ := I.pin (a, oe) (List.mem_append.mpr (.inl List.mem_cons_self))
      obtain ⟨od, In⟩ := xd_inst I hget hz hf hdd
      exact PySem.W.kia_one (PySem.W.kitx_exc (by obtain ⟨cd, hc, _⟩ := PySem.W.any_some G.hd; rw [hc]; rfl) G.hg G.hk G.hs G.ha G.hn G.ht G.hm) I.kIn In e (fun z => nomatch z) fun tk => ⟨.bl b, H, I.kept (t' := tk) fun _ _ z => z, rfl, q⟩
theorem call_isXt {a C dd : Addr} {fs : List (Str × V)} {oe : Obj} {pn : List (Addr × Obj)} (G : ExcC X.K C) (hz : Zc (.ref C) (some dd) oe) (hf : ∃ vs, oe.data = .fields vs) : CallR (X.suite a ((a, oe) :: pn)) (.builtin "isinstance") (rIsXt X.K C a dd fs) := by
  intro pins s σ H xs us Q I r h
  obtain ⟨p, cs, cvs, b, rfl, hsq, hcv, e, hdd, q⟩ := h
  cases r with
  | cons rx rr =>
    cases rr with
    | cons rt rr =>
      cases rr
      cases rx
      cases rt
      obtain ⟨hget, _⟩ := I.pin (a, oe) (List.mem_append.mpr (.inl List.mem_cons_self))
      obtain ⟨od, In⟩ := xd_inst I hget hz hf hdd
      obtain ⟨its, rv, ⟨oT, hoT, hcT, nT, hdT⟩, _⟩ := I.tuple hsq
      have ei := hcv its rv
      subst ei
      obtain ⟨cT, ddT, dT, slT⟩ := oT
      dsimp only at hcT hdT
      subst hcT hdT
      exact PySem.W.kia_tup (PySem.W.kitx_exc (by obtain ⟨cd, hc, _⟩ := PySem.W.any_some G.hd; rw [hc]; rfl) G.hg G.hk G.hs G.ha G.hn G.ht G.hm) I.kIn In hoT e (fun z => nomatch z) fun tk => ⟨.bl b, H, I.kept (t' := tk) fun _ _ z => z, rfl, q⟩
def qIsX (i : Nat) (b : Bool) : QD := fun ρ P => ρ[i]? = some .ja ∧ P (.bool b) ρ
theorem pd_isX {n : En} {a C dd : Addr} {fs : List (Str × V)} {oe : Obj} {pn : List (Addr × Obj)} {i : Nat} {cl : V} {cv : Value} {b : Bool} {o ce : Expr} {x : Str} {p : Pos} (G : ExcC X.K C) (hz : Zc (.ref C) (some dd) oe) (hfl : ∃ vs, oe.data = .fields vs)
    (hg : Gl X x) (hm : X.mg x = none) (hv : bootBuiltins x = some (.builtin "isinstance")) (ho : PE (X.suite a ((a, oe) :: pn)) o (tVar i)) (hce : PE (X.suite a ((a, oe) :: pn)) ce (tC cl)) (hcv : ∀ u, RelV cl u → u = cv) (hb : PySem.W.kitOne X.K (.ref C) cv = some b)
    (hn : x ≠ "__name__" := by decide) (hdb : (x == ("__debug__" : Str)) = false := by decide) (he1 : starEach [o, ce] X.env = (false, eval o X.env) :: starEach [ce] X.env := by rfl) (he2 : starEach [ce] X.env = (false, eval ce X.env) :: starEach [] X.env := by rfl)
    (hpl : (backTo pos (starEach [ce] X.env)).any (·.1) = false := by rfl) : PD (jex J n a dd fs) (X.suite a ((a, oe) :: pn)) (.Call (.Name x p) [o, ce] [] pos) (qIsX i b) :=
  pe_mono (pe_callB (call_isX G hz hfl) hg hm hv (pa_cons ho (pa_cons hce pa_nil he2) he1) hn hdb he1 hpl) fun σ H Q ⟨m, H0, ρ, P, R, ⟨hj, hp⟩, k⟩ => by
    obtain ⟨q1, q2⟩ := R.sl i _ hj
    obtain ⟨j1, j2, j3, j4⟩ := R.jar q2
    exact ⟨_, q1, cl, cv, b, by rw [j2], hcv, hb, j3, k (.bl b) H H0 (.bool b) ρ R (.refl _) (.bl b) hp⟩
def tCs (vs : List V) : TA := fun _ H Q => Q vs H
theorem pcs_nil {Y : Cx} : PA Y [] (tCs []) := pa_mono pa_nil fun σ H Q z => z
theorem pcs_cons {Y : Cx} {e : Expr} {es : List Expr} {v : V} {vs : List V} (h : PE Y e (tC v)) (h2 : PA Y es (tCs vs)) (hs : starEach (e :: es) Y.env = (false, eval e Y.env) :: starEach es Y.env := by rfl) : PA Y (e :: es) (tCs (v :: vs)) :=
  pa_mono (pa_cons h h2 hs) fun σ H Q z => z
theorem pd_isXt {n : En} {a C dd : Addr} {fs : List (Str × V)} {oe : Obj} {pn : List (Addr × Obj)} {i : Nat} {cs : List V} {cvs : List Value} {b : Bool} {o : Expr} {ces : List Expr} {kt : Nat} {tpos : Pos} {x : Str} {p : Pos} (G : ExcC X.K C) (hz : Zc (.ref C) (some dd) oe) (hfl : ∃ vs, oe.data = .fields vs)
    (hg : Gl X x) (hm : X.mg x = none) (hv : bootBuiltins x = some (.builtin "isinstance")) (ho : PE (X.suite a ((a, oe) :: pn)) o (tVar i)) (hces : PA (X.suite a ((a, oe) :: pn)) ces (tCs cs)) (hlen : cs.length ≤ sizeLine) (hcv : ∀ us, Vals cs us → us = cvs) (hb : PySem.W.kitAny X.K (.ref C) cvs = some b)
    (hn : x ≠ "__name__" := by decide) (hdb : (x == ("__debug__" : Str)) = false := by decide) (he1 : starEach [o, .Tuple ces kt tpos] X.env = (false, eval o X.env) :: starEach [.Tuple ces kt tpos] X.env := by rfl) (he2 : starEach [.Tuple ces kt tpos] X.env = (false, eval (.Tuple ces kt tpos) X.env) :: starEach [] X.env := by rfl)
    (hpl : (backTo pos (starEach [.Tuple ces kt tpos] X.env)).any (·.1) = false := by rfl) : PD (jex J n a dd fs) (X.suite a ((a, oe) :: pn)) (.Call (.Name x p) [o, .Tuple ces kt tpos] [] pos) (qIsX i b) :=
  pe_mono (pe_callB (call_isXt G hz hfl) hg hm hv (pa_cons ho (pa_cons (pe_tup hces) pa_nil he2) he1) hn hdb he1 hpl) fun σ H Q ⟨m, H0, ρ, P, R, ⟨hj, hp⟩, k⟩ => by
    obtain ⟨q1, q2⟩ := R.sl i _ hj
    obtain ⟨j1, j2, j3, j4⟩ := R.jar q2
    refine ⟨_, q1, hlen, fun t ht => ⟨t, cs, cvs, b, by rw [j2], SqT.of upd_same, hcv, hb, ?_, k (.bl b) _ H0 (.bool b) ρ (R.laid ht) (.refl _) (.bl b) hp⟩⟩
    rw [upd_ne (fun z => by rw [z, ht] at j3; cases j3)]
    exact j3
end
/-! ### more of what may raise: a call by keywords, a choice, a pair -/
section
variable {X : Cx} {J : Jr} {T : XT} {W : WX} {e a b c tg iter : Expr} {es : List Expr} {pos : Pos} {st : Stmt} {sts : List Stmt}
theorem pe_callK0S {sp : Sp} {k : Nat} {f : Addr} {fd : FuncData} {ps ks : List Str} {idx : List Nat} {x : Str} {p : Pos} {kws : List Keyword} {tk : TA} {E : L2.St → XK} {CX : CXT} (F : FnOk X.prog X.w X.K X.mg X.base CX k f fd ps sp) (hr : Room k X.A) (hg : Gl X x) (hm : X.mg x = some (.ref f)) (hk : PySem.W.keepIn X.K (.ref f) = true)
    (hb : KwOk X.K fd ps ks idx) (hix : ∀ i ∈ idx, i < ks.length) (hil : idx.length = ps.length) (hx : ∀ σ, PassesAt CX X σ (E σ)) (hkw : PK X kws tk) (hall : (backToKw pos (keywordEach kws X.env)).all (·.1.isSome) = true) (hks : (backToKw pos (keywordEach kws X.env)).filterMap (·.1) = ks)
    (hdb : (x == ("__debug__" : Str)) = false) (hpl : ((backTo pos (starEach [] X.env)).any (·.1) || (backToKw pos (keywordEach kws X.env)).any (·.1.isNone)) = false) :
    PE X (.Call (.Name x p) [] kws pos) (fun σ H Q => tk σ H fun zs H2 => zs.length = ks.length ∧ sp (reord .non idx zs) H2 Q (E σ)) := by
  refine ⟨fun pins s σ H Q I h => wpAny_Call_Name_kw (ld_glob I hg hm ?_ hdb)⟩
  refine PySem.W.callWith_KW0 (h₀ := X.base) I.ok.mod.kin hk hall (thn (hkw.run pos pins s σ H _ I h) fun ws s2 ⟨zs, H2, I2, rz, hl, q2⟩ => ⟨I2.kIn, ?_⟩) hpl
  have hlw : ws.length = ks.length := by rw [← rz.length, hl]
  have rr : Vals (reord .non idx zs) (idx.map fun i => ws.getD i .none) := by
    have all : ∀ (js : List Nat), (∀ j ∈ js, j < ks.length) → Vals (reord .non js zs) (js.map fun i => ws.getD i .none) := by
      intro js
      induction js with
      | nil => exact fun _ => .nil
      | cons j r ih =>
        intro hj
        refine .cons ?_ (ih fun i hi => hj i (List.mem_cons_of_mem _ hi))
        have hz : j < zs.length := by rw [hl]; exact hj j (List.mem_cons_self ..)
        obtain ⟨u, hu, ru⟩ := Vals.get rz (List.getElem?_eq_getElem hz)
        show RelV (zs.getD j V.non) (ws.getD j Value.none)
        rw [List.getD_eq_getElem?_getD, List.getD_eq_getElem?_getD, List.getElem?_eq_getElem hz, hu]
        exact ru
    exact all idx hix
  rw [hks]
  refine wpAny_call (codeAny_mono (F.run X.A X.stack s2 H2 ⟨[], ks.zip ws⟩ _ _ Q (E σ) hr I2.env0 (hb s2 ws I2.kIn hlw) rr q2) fun r s' hq => ?_)
  cases r with
  | error er => exact hx σ pins H2 s2 er s' I2 hq
  | ok fl =>
    cases fl with
    | ret u => exact I2.after hq
    | _ => exact hq.elim
theorem prx_callK {pp : PPr} {qa : QA} {k k' : Nat} {ps ks : List Str} {idx : List Nat} {x : Str} {st : Stmt} {p : Pos} {kws : List Keyword} (tk : Takes X W) (C : CalX X.prog X.w X.K X.mg X.base T J k x st ps pp) (hr : Room k' X.A) (hk : k ≤ k') (hg : Gl X x)
    (hb : ∀ fd (f : Addr), FnP X.K x st f fd → KwOk X.K fd ps ks idx) (ha : PKa J X kws qa) (hix : ∀ i ∈ idx, i < ks.length) (hil : idx.length = ps.length)
    (hall : (backToKw pos (keywordEach kws X.env)).all (·.1.isSome) = true := by rfl) (hks : (backToKw pos (keywordEach kws X.env)).filterMap (·.1) = ks := by rfl)
    (hdb : (x == ("__debug__" : Str)) = false := by decide) (hpl : ((backTo pos (starEach [] X.env)).any (·.1) || (backToKw pos (keywordEach kws X.env)).any (·.1.isNone)) = false := by rfl) :
    PRx J T W X (.Call (.Name x p) [] kws pos) (qCall pp (qReord idx ks.length qa)) := by
  obtain ⟨f, fd, F, hm, G, _⟩ := C.ex
  refine pe_mono (pe_callK0S F (hr.mono hk) hg hm G.kp (hb fd f G) hix hil (fun σ => passAt tk σ) ha hall hks hdb hpl) fun σ H Q ⟨n, H0, ρ, P, R, w, kk, kx⟩ => ?_
  refine ⟨n, H0, ρ, _, R, w, fun vs H1 H01 as ρ1 R1 S1 hp ⟨hl, gs, hg2, w2⟩ => ⟨by rw [pair_len hp, hl], ?_⟩⟩
  obtain ⟨H0f, Sf, Rf, hf⟩ := Rp.args (.refl H01) (reord (.d .none) idx as) ρ1 H01 (reord .non idx vs) gs R1 (pair_reord .non idx hp) hg2
  refine ⟨H0f, n.as, n.jv, gs, Rf.sub, R1.jar, Rf.jarOk, hf, _, w2, fun r v H' hb' hr' => ?_, fun x ds cls d H' hb' hx => ?_⟩
  · exact called (S0 := fun _ => True) (pp := pp) C.nj R1 Rf Sf (fun v H' H0' r ρ' R' S' hres hp => kk v H' H0' r ρ' R' (S1.trans S') hres hp) hb' hr'
  · obtain ⟨H0', S', R', hex⟩ := Rf.callE C.nj hx
    exact kx H' H0' _ cls d x ds R' ((S1.trans Sf).trans S') hex hb'
theorem pr_callKN {pp : PPr} {qa : QA} {k k' : Nat} {ps ks : List Str} {idx : List Nat} {x : Str} {st : Stmt} {p : Pos} {kws : List Keyword} (C : CalX X.prog X.w X.K X.mg X.base T J k x st ps pp) (hr : Room k' X.A) (hk : k ≤ k') (hg : Gl X x)
    (hb : ∀ fd (f : Addr), FnP X.K x st f fd → KwOk X.K fd ps ks idx) (ha : PKa J X kws qa) (hix : ∀ i ∈ idx, i < ks.length) (hil : idx.length = ps.length)
    (hall : (backToKw pos (keywordEach kws X.env)).all (·.1.isSome) = true := by rfl) (hks : (backToKw pos (keywordEach kws X.env)).filterMap (·.1) = ks := by rfl)
    (hdb : (x == ("__debug__" : Str)) = false := by decide) (hpl : ((backTo pos (starEach [] X.env)).any (·.1) || (backToKw pos (keywordEach kws X.env)).any (·.1.isNone)) = false := by rfl) :
    PR J X (.Call (.Name x p) [] kws pos) (qCallN pp (qReord idx ks.length qa)) :=
  pe_mono (prx_callK (W := fun _ _ _ _ => False) takes_none5 C hr hk hg hb ha hix hil hall hks hdb hpl) fun σ H Q ⟨n, H0, ρ, P, R, w, k⟩ =>
    ⟨n, H0, ρ, fun r ρ' => noEx r (P r ρ'), R, w, fun v H' H0' r ρ' R' S' hres hp => k v H' H0' r ρ' R' S' hres (noEx_val hres hp), fun H' H0' ρ' cls d x ds R' S' hx hp => hp⟩
theorem prx_if {qt : QT} {qa qb : QR} (hc : PB J X c qt) (ha : PRx J T W X a qa) (hb : PRx J T W X b qb) : PRx J T W X (.IfExp c a b pos) (qIf qt qa qb) :=
  pe_mono (pe_ifExp hc ha hb) fun σ H Q ⟨n, H0, ρ, P, R, w, k, kx⟩ => ⟨n, H0, ρ, _, R, w, fun x H1 H01 ρ1 R1 S1 w1 => by
    cases x with
    | true => exact ⟨n, H01, ρ1, P, R1, w1, fun v H' H0' r ρ' R' S' hr hp => k v H' H0' r ρ' R' (S1.trans S') hr hp, fun H' H0' ρ' cls d x ds R' S' => kx H' H0' ρ' cls d x ds R' (S1.trans S')⟩
    | false => exact ⟨n, H01, ρ1, P, R1, w1, fun v H' H0' r ρ' R' S' hr hp => k v H' H0' r ρ' R' (S1.trans S') hr hp, fun H' H0' ρ' cls d x ds R' S' => kx H' H0' ρ' cls d x ds R' (S1.trans S')⟩⟩
/-- (a, f(..)), f may raise; f gives data -/
def pairX (d : D) (P : Sl → List Sl → Prop) (r : Sl) (ρ : List Sl) : Prop := match r with
  | .da (.dict kv) => P (.da (.dict kv)) ρ
  | .da x => P (.da (.tuple [d, x])) ρ
  | _ => False
def qPairX (qa : QD) (qb : QR) : QR := fun ρ P => qa ρ fun d ρ1 => qb ρ1 (pairX d P)
theorem pairX_val {K : PySem.W.Frag} {n : En} {σ : L2.St} {ρ : List Sl} {H H0 : Hp} {v : V} {r : Sl} {d : D} {P : Sl → List Sl → Prop} {ρ' : List Sl} (h : ResOk K n σ ρ H H0 v r) (w : pairX d P r ρ') : ∃ x, Dq K H0 v x ∧ P (.da (.tuple [d, x])) ρ' := by
  cases r with
  | da x =>
    cases x with
    | dict kv => cases h
    | _ => exact ⟨_, h, w⟩
  | _ => exact w.elim
theorem prx_pair {qa : QD} {qb : QR} {x1 : Nat} (ha : PD J X a qa) (hb : PRx J T W X b qb) (hs1 : starEach [a, b] X.env = (false, eval a X.env) :: starEach [b] X.env := by rfl) (hs2 : starEach [b] X.env = (false, eval b X.env) :: starEach [] X.env := by rfl) :
    PRx J T W X (.Tuple [a, b] x1 pos) (qPairX qa qb) :=
  pe_mono (pe_tup (pa_cons ha (pa_cons hb pa_nil hs2) hs1)) fun σ H Q ⟨n, H0, ρ, P, R, w, k, kx⟩ => ⟨n, H0, ρ, _, R, w, fun v H1 H01 d ρ1 R1 S1 hd w1 => ⟨n, H01, ρ1, _, R1, w1, fun v2 H2 H02 r ρ2 R2 S2 hr hp => by
    obtain ⟨x, hx, hp⟩ := pairX_val hr hp
    refine ⟨(by decide : 2 ≤ sizeLine), fun p hpn => ?_⟩
    have h0 := R2.h0 hpn
    exact k _ _ _ (.da (.tuple [d, x])) ρ2 (R2.alloc hpn) ((S1.trans S2).trans (same_up h0)) (.tup (SqT.of upd_same) (.cons (dp_mono (S2.trans (same_up h0)) d v hd) (.cons (dp_mono (same_up h0) x v2 hx) .nil))) hp,
    fun H' H0' ρ' cls d x ds R' S' hx hp => kx H' H0' ρ' cls d x ds R' (S1.trans S') hx hp⟩⟩
end
end Zd

set_option Elab.async false
set_option linter.all false
set_option maxRecDepth 100000
set_option maxHeartbeats 4000000
namespace Zd
open PySem PySem.Spec PyProof.Rows L2
/-! ### the head's facts about the classes that are raised -/
/-- one class that is raised: its name, its fields, its __init__ -/
structure XcD where
  x : Str
  ps : List Str
  qual : Str
  params : Arguments
  body : List Stmt
  scope : Scope
abbrev FnC : Type := Option (Str × Str × Arguments × FuncBody × Scope × Addr × List Str × Value × Addr)
def fnC (K : PySem.W.Frag) (x : Str) : FnC := match K.lookup (He.ma K (He.ga K x) "__init__") with
  | some ⟨_, _, .func fd, _⟩ => some (fd.name, fd.qualname, fd.params, fd.body, fd.scope, fd.globals, fd.closure.map (·.1), fd.defaults, fd.builtins)
  | _ => none
def XcD.val (d : XcD) : FnC := some ("__init__", d.qual, d.params, .stmts d.body, d.scope, mainGlobals, ["__class__"], .none, builtinsNs)
/-- the class object -/
def clsB (K : PySem.W.Frag) (C : Addr) : Bool := match K.lookup C with
  | some ⟨.type ty, _, .cls cd, sl⟩ => decide (ty = "type") && (match cd.mro, sl.toList with
    | .ref C' :: bm, [_, _, _, _, some (.builtin n), _] => decide (C' = C) && (decide (n = "ValueError.__new__") && (!cd.hasDel && (cd.hasDict && PySem.HandSPX.refsVE bm)))
    | _, _ => false)
  | _ => false
/-- its __init__: the cell, the code object -/
def iniB (K : PySem.W.Frag) (C f : Addr) (qual file : Str) : Bool := match K.lookup f with
  | some ⟨_, _, .func fd, _⟩ => (match fd.closure, fd.code with
    | [(_, cc)], .ref cda => (match K.lookup cc with
      | some ⟨_, _, .cell (some (.ref C')), _⟩ => decide (C' = C)
      | _ => false) && (PySem.W.codeIn K (.ref cda) qual && (match K.lookup cda with
      | some ⟨_, _, .fields vs, _⟩ => (match (vs[2]? : Option Value) with
        | some (.str y _) => decide (y = file)
        | _ => false)
      | _ => false))
    | _, _ => false)
  | _ => false
def excB (K : PySem.W.Frag) (D : Addr) : Bool := He.eqO (PySem.W.findIn K (.ref D) "__class__") (some (some (.builtin "object.__class__"))) && (He.eqO (PySem.W.specialIn K (.builtin "object.__class__") "__get__") (some (some (.builtin "getset_descriptor.__get__"))) &&
  (decide (PySem.W.takesIn K (.builtin "object.__class__") = some true) && decide (PySem.W.mroIn K D (.type "object") = some true)))
def xcB (K : PySem.W.Frag) (file : Str) (d : XcD) : Bool := clsB K (He.ga K d.x) && (iniB K (He.ga K d.x) (He.ma K (He.ga K d.x) "__init__") d.qual file && (He.eqO (PySem.W.findIn K (.ref (He.ga K d.x)) "__setattr__") (some (some (.builtin "object.__setattr__"))) &&
  (decide (PySem.W.typeIn K (.ref (He.ga K d.x)) = some (.type "type")) && (PySem.W.keepIn K (.ref (He.ga K d.x)) && (He.eqO (PySem.W.findIn K (.ref (He.ga K d.x)) "__init__") (some (some (.ref (He.ma K (He.ga K d.x) "__init__")))) &&
  (decide (PySem.W.typeIn K (.ref (He.ma K (He.ga K d.x) "__init__")) = some (.type "function")) && (decide (PySem.W.mroIn K (He.ga K d.x) (.ref (He.ga K d.x)) = some true) && (He.eqO (PySem.W.ks_superIn K (He.ga K d.x) (He.ga K d.x) "__init__") (some (some (.builtin "ValueError.__init__"))) &&
  (He.eqO (PySem.W.nsIn K cStatics "thirdparty.any") (some none) && (decide (PySem.W.subIn K (.ref (He.ga K d.x)) (.type "ValueError") = some true) && (d.ps.all (fun p => He.eqO (PySem.W.findIn K (.ref (He.ga K d.x)) p) (some none)) && (xfB K (He.ga K d.x) && (excB K (He.ga K d.x) &&
  He.eqO (PySem.W.nsIn K mainGlobals d.x) (some (some (.ref (He.ga K d.x)))))))))))))))))
/-- what they tell -/
structure XcSay (K : PySem.W.Frag) (file : Str) (d : XcD) : Prop where
  ini : ∃ cc cda, InitK K (He.ga K d.x) (He.ma K (He.ga K d.x) "__init__") cc cda file ∧ PySem.W.codeIn K (.ref cda) d.qual = true ∧ ∃ oc od osl kV doc pm an ct,
    K.lookup (He.ma K (He.ga K d.x) "__init__") = some ⟨oc, od, .func (PySem.W.ksFn "__init__" d.qual d.params d.body d.scope .none kV doc pm an (.ref cda) ct cc), osl⟩
  find : PySem.W.findIn K (.ref (He.ga K d.x)) "__init__" = some (some (.ref (He.ma K (He.ga K d.x) "__init__")))
  ty : PySem.W.typeIn K (.ref (He.ma K (He.ga K d.x) "__init__")) = some (.type "function")
  no : ∀ p ∈ d.ps, PySem.W.findIn K (.ref (He.ga K d.x)) p = some none
  xf : XfC K (He.ga K d.x)
  ec : ExcC K (He.ga K d.x)
  gl : PySem.W.nsIn K mainGlobals d.x = some (some (.ref (He.ga K d.x)))
theorem clsB_ok {K : PySem.W.Frag} {C : Addr} (h : clsB K C = true) : ∃ nm q N bs bm sn sub ab col dd k0 k1 k2 k3 k5, K.lookup C = some (excClassObj nm q C N bs bm true sn sub ab col dd k0 k1 k2 k3 k5 "ValueError.__new__") ∧ PySem.HandSPX.refsVE bm = true := by
  unfold clsB at h
  split at h
  · rename_i ty dd cd sl ho
    obtain ⟨g0, g⟩ := He.ba h
    clear h
    obtain rfl := of_decide_eq_true g0
    clear g0
    split at g
    · rename_i C' bm k0 k1 k2 k3 n k5 hm hs
      obtain ⟨h1, g⟩ := He.ba g
      obtain ⟨h2, g⟩ := He.ba g
      obtain ⟨h3, g⟩ := He.ba g
      obtain ⟨h4, h5⟩ := He.ba g
      clear g
      have e1 := of_decide_eq_true h1
      have e2 := of_decide_eq_true h2
      subst e1 e2
      obtain ⟨nm, bs, mro, ns, qn, hd, sn, sub, ab, col, del⟩ := cd
      dsimp only at hm h3 h4
      simp only [Bool.not_eq_true'] at h3
      subst hm h3 h4
      have hsl : sl = #[k0, k1, k2, k3, some (.builtin "ValueError.__new__"), k5] := by
        obtain ⟨l⟩ := sl
        simp only at hs
        rw [hs]
      subst hsl
      exact ⟨nm, qn, ns, bs, bm, sn, sub, ab, col, dd, k0, k1, k2, k3, k5, ho, h5⟩
    · cases g
  · cases h
theorem xc_ok {K : PySem.W.Frag} {file : Str} {d : XcD} (h : xcB K file d = true) (e : fnC K d.x = d.val) : XcSay K file d := by
  unfold xcB at h
  obtain ⟨h1, h⟩ := He.ba h
  obtain ⟨h2, h⟩ := He.ba h
  obtain ⟨h3, h⟩ := He.ba h
  obtain ⟨h4, h⟩ := He.ba h
  obtain ⟨h5, h⟩ := He.ba h
  obtain ⟨h6, h⟩ := He.ba h
  obtain ⟨h7, h⟩ := He.ba h
  obtain ⟨h8, h⟩ := He.ba h
  obtain ⟨h9, h⟩ := He.ba h
  obtain ⟨h10, h⟩ := He.ba h
  obtain ⟨h11, h⟩ := He.ba h
  obtain ⟨h12, h⟩ := He.ba h
  obtain ⟨h13, h⟩ := He.ba h
  obtain ⟨h14, h15⟩ := He.ba h
  have xf := xfB_ok h13
  unfold excB at h14
  obtain ⟨e1, h14⟩ := He.ba h14
  obtain ⟨e2, h14⟩ := He.ba h14
  obtain ⟨e3, e4⟩ := He.ba h14
  refine ⟨?_, He.eqO_ok h6, of_decide_eq_true h7, fun p hp => He.eqO_ok (List.all_eq_true.mp h12 p hp), xf, ⟨xf.ga, xf.gg, xf.exC, xf.hdC, He.eqO_ok e1, He.eqO_ok e2, of_decide_eq_true e3, of_decide_eq_true e4⟩, He.eqO_ok h15⟩
  have T : OexC K (He.ga K d.x) := ⟨clsB_ok h1, He.eqO_ok h3, xf.exC, of_decide_eq_true h4, h5⟩
  unfold iniB at h2
  unfold fnC at e
  split at h2
  · rename_i oc od fd osl ho
    rw [ho] at e
    split at h2
    · rename_i n cc cda hcl hcd
      obtain ⟨g1, h2⟩ := He.ba h2
      obtain ⟨g2, g3⟩ := He.ba h2
      obtain ⟨n1, n2, n3, n4, n5, n6, n7, n8, n9, n10, n11, n12, n13, n14, n15⟩ := fd
      have e2 : (some (n1, n2, n3, n4, n5, n6, n7.map (·.1), n8, n15) : FnC) = some (("__init__" : Str), d.qual, d.params, FuncBody.stmts d.body, d.scope, mainGlobals, [("__class__" : Str)], Value.none, builtinsNs) := e
      dsimp only at hcl hcd
      subst hcl hcd
      simp only [Option.some.injEq, Prod.mk.injEq, List.map_cons, List.map_nil, List.cons.injEq, and_true] at e2
      obtain ⟨q1, q2, q3, q4, q5, q6, q7, q8, q9⟩ := e2
      subst q1 q2 q3 q4 q5 q6 q7 q8 q9
      refine ⟨cc, cda, ⟨T, ?_, ?_, of_decide_eq_true h8, He.eqO_ok h9, He.eqO_ok h10, of_decide_eq_true h11⟩, g2, oc, od, osl, n9, n10, n11, n12, n14, ho⟩
      · split at g1
        · rename_i a b C' c q
          have := of_decide_eq_true g1
          subst this
          exact ⟨a, b, c, q⟩
        · cases g1
      · split at g3
        · rename_i a b vs c q
          split at g3
          · rename_i y t q2
            have := of_decide_eq_true g3
            subst this
            exact ⟨a, b, vs, c, t, q, q2⟩
          · cases g3
        · cases g3
    · cases h2
  · cases h2
/-! ### the Hook -/
structure SaysC (fa : List He.Fa) (fn : List He.DefD) (ts : List He.Tab) (ex : PySem.W.Frag → Bool) (file : Str) (xs : List XcD) (w : World) (K : PySem.W.Frag) : Prop where
  t : He.SaysT fa fn ts w K
  more : ex K = true
  xc : ∀ d ∈ xs, XcSay K file d
def frC (g : Addr → Option Obj) (n : Nat) : PySem.W.Frag := He.frT g (cStatics :: He.asD g n)
abbrev AlC : Type := (He.AlT × Bool) × List FnC
def obsC (n : Nat) (fa : List He.Fa) (fn : List He.DefD) (ts : List He.Tab) (ex : PySem.W.Frag → Bool) (file : Str) (xs : List XcD) (g : Addr → Option Obj) : AlC :=
  ((He.obsT fa fn ts (frC g n), ex (frC g n) && xs.all (xcB (frC g n) file)), xs.map fun d => fnC (frC g n) d.x)
def valC (fn : List He.DefD) (ts : List He.Tab) (xs : List XcD) (w : World) : AlC := ((He.valT fn ts w, true), xs.map XcD.val)
theorem saysC_of {n : Nat} {fa : List He.Fa} {fn : List He.DefD} {ts : List He.Tab} {ex : PySem.W.Frag → Bool} {file : Str} {xs : List XcD} {w : World} {h : Heap} (e : obsC n fa fn ts ex file xs h.get? = valC fn ts xs w) : SaysC fa fn ts ex file xs w (frC h.get? n) := by
  have e1 : He.obsT fa fn ts (frC h.get? n) = He.valT fn ts w := congrArg (fun z : AlC => z.1.1) e
  have e2 : (ex (frC h.get? n) && xs.all (xcB (frC h.get? n) file)) = true := congrArg (fun z : AlC => z.1.2) e
  have e3 : (xs.map fun d => fnC (frC h.get? n) d.x) = xs.map XcD.val := congrArg (fun z : AlC => z.2) e
  obtain ⟨h1, h2⟩ := He.ba e2
  refine ⟨e1, h1, fun d hd => xc_ok (List.all_eq_true.mp h2 d hd) ?_⟩
  obtain ⟨i, hi, q⟩ := List.mem_iff_getElem.mp hd
  have e4 := congrArg (fun l => l[i]?) e3
  simp only [List.getElem?_map, List.getElem?_eq_getElem hi, q, Option.map_some] at e4
  exact Option.some.inj e4
def hookC (n : Nat) (fa : List He.Fa) (fn : List He.DefD) (ts : List He.Tab) (ex : PySem.W.Frag → Bool) (file : Str) (xs : List XcD) : PySem.W.Hook where
  α := AlC
  obs := fun s => obsC n fa fn ts ex file xs s.heap.get?
  val := fun w => valC fn ts xs w
  says := fun w h => ∃ K : PySem.W.Frag, K.In h ∧ SaysC fa fn ts ex file xs w K
  of := fun _ _ e => ⟨_, He.frT_in, saysC_of e⟩
  keeps := fun _ _ _ ⟨K, hK, c⟩ k => ⟨K, PySem.W.Frag.In.keeps hK k, c⟩
theorem obsC_eq {n : Nat} {fa : List He.Fa} {fn : List He.DefD} {ts : List He.Tab} {ex : PySem.W.Frag → Bool} {file : Str} {xs : List XcD} {g : Addr → Option Obj} {s : Shared} (h : ∀ a, g a = s.heap.get? a) : obsC n fa fn ts ex file xs g = (hookC n fa fn ts ex file xs).obs s := by
  have e : g = s.heap.get? := funext h
  rw [e] <;> rfl
/-! ### a class of that shape may be raised -/
structure XcShape (P : Program) (file : Str) (d : XcD) (p : Str) (ps : List Str) (es : List Expr) (sts : List Stmt) (q0 q1 q2 q4 q5 : Pos) (pl : Addr → Addr → Addr → Addr → Sem Bool) (ar : Arg) : Prop where
  hps : d.ps = p :: ps
  hbody : d.body = .Expr (.Call (.Attribute (.Call (.Name "super" q0) [] [] q1) "__init__" q2) es [] q4) q5 :: sts
  hes : Nms (p :: ps) es
  hst : ∀ L f cda cc, Asgs (PySem.W.ksEnv d.qual d.scope L f (.ref cda) cc) (p :: ps) sts
  he : ∀ L f cda cc, eval (.Call (.Attribute (.Call (.Name "super" q0) [] [] q1) "__init__" q2) es [] q4) (PySem.W.ksEnv d.qual d.scope L f (.ref cda) cc) = (do
      let ov ← attributeBase (.Call (.Name "super" q0) [] [] q1) "__init__" (PySem.W.ksEnv d.qual d.scope L f (.ref cda) cc) (eval (.Call (.Name "super" q0) [] [] q1) (PySem.W.ksEnv d.qual d.scope L f (.ref cda) cc))
      standAt q2.atName
      let (gg, first) ← holding [ov] (getMethod ov "__init__" (pl L f cda cc))
      callWith q4 gg first (backTo q4 (starEach es (PySem.W.ksEnv d.qual d.scope L f (.ref cda) cc))) [])
  hi : ∀ L f cda cc, interactive (PySem.W.ksEnv d.qual d.scope L f (.ref cda) cc) = false
  hsw : ∀ L f cda cc, swapsWith (.Call (.Attribute (.Call (.Name "super" q0) [] [] q1) "__init__" q2) es [] q4) none q5.line (PySem.W.ksEnv d.qual d.scope L f (.ref cda) cc) = pure false
  hp : (d.params.posonlyargs ++ d.params.args).head? = some ar
  har : ar.arg = "self"
  hfile : ((P.main.file : Str) == file) = true
  htop : (P.main.scope.names.lookup ("super" : Str)).isSome = false
  hks : d.scope.names.lookup ("super" : Str) = some .globalImplicit
  hkc : d.scope.names.lookup ("__class__" : Str) = some .free
  hk : d.scope.kind = .function
  hco : d.scope.isCoroutine = false
  hgen : d.scope.isGenerator = false
  hcell : d.scope.names.all (fun x => match x.2 with | .cell => false | _ => true) = true
  hloc : ∀ y ∈ ("self" : Str) :: p :: ps, d.scope.names.lookup y = some .local ∧ (y == ("__debug__" : Str)) = false
  nd : (("self" : Str) :: p :: ps).Nodup
  h9 : (p :: ps).length ≤ 900
  hb : ∀ (kV doc pm ct : Value) (an : Option Addr) (cda cc : Addr) (us : List Value), us.length = (("self" : Str) :: p :: ps).length → bindArgs (PySem.W.ksFn "__init__" d.qual d.params d.body d.scope .none kV doc pm an (.ref cda) ct cc) ⟨us, []⟩ = pure ((("self" : Str) :: p :: ps).zip us)
theorem xcOk_of {P : Program} {w : World} {K : PySem.W.Frag} {mg : Str → Option Value} {base : Heap} {file : Str} {d : XcD} {p : Str} {ps : List Str} {es : List Expr} {sts : List Stmt} {q0 q1 q2 q4 q5 : Pos} {pl : Addr → Addr → Addr → Addr → Sem Bool} {ar : Arg}
    (c : XcSay K file d) (S : XcShape P file d p ps es sts q0 q1 q2 q4 q5 pl ar) (hms : mg "super" = none) (hmg : mg d.x = some (.ref (He.ga K d.x))) : XcOk P w K mg base d.x d.ps := by
  obtain ⟨cc, cda, W, hcd, oc, od, osl, kV, doc, pm, an, ct, lk⟩ := c.ini
  have hno := c.no
  have hb := S.hb
  rw [S.hps] at hno ⊢
  refine ⟨_, _, PySem.W.ksFn "__init__" d.qual d.params d.body d.scope .none kV doc pm an (.ref cda) ct cc, W.T, c.find, c.ty, ?_, ?_, hmg⟩
  · rw [S.hbody] at lk ⊢
    exact fn_super W S.hes (fun L => S.hst L _ cda cc) lk hcd (fun L => S.he L _ cda cc) (fun L => S.hi L _ cda cc) (fun L => S.hsw L _ cda cc) S.hp S.har S.hfile hms S.htop S.hks S.hkc S.hk S.hco S.hgen (fun x hx e => by
      have := List.all_eq_true.mp S.hcell x hx
      rw [e] at this
      cases this) S.hloc S.nd hno S.h9
  · exact Binds.all fun us hl => hb kV doc pm ct an cda cc us hl
/-! ### for the suites -/
theorem vals_refs : ∀ (as : List Addr) (us : List Value), Vals (as.map V.ref) us → us = as.map Value.ref
  | [], us, h => by
    cases h
    rfl
  | a :: as, us, h => by
    cases h with
    | cons r t =>
      rw [vals_refs as _ t]
      obtain rfl : _ = Value.ref a := r
      rfl
theorem dqa_at {K : PySem.W.Frag} {H : Hp} : ∀ {vs : List V} {ds : List D} {v : V} {d : D}, DqAll K H vs ds → ∀ k : Nat, vs[k]? = some v → ds[k]? = some d → Dq K H v d
  | _, _, _, _, .nil, k, h, _ => by cases h
  | _, _, _, _, .cons h t, 0, h1, h2 => by
    cases h1
    cases h2
    exact h
  | _, _, _, _, .cons h t, k + 1, h1, h2 => dqa_at t k h1 h2
def sEx1 (f : D → QS) : Str → List D → QS
  | _, [a] => f a
  | _, _ => fun _ _ => False
def sEx2 (f : D → D → QS) : Str → List D → QS
  | _, [a, b] => f a b
  | _, _ => fun _ _ => False
def sEx3 (f : D → D → D → QS) : Str → List D → QS
  | _, [a, b, c] => f a b c
  | _, _ => fun _ _ => False
theorem lenLe {α : Type} {l : List α} (h : l.length ≤ 100) : l.length ≤ sizeLine := by
  rw [sizeLine_eq]
  omega
theorem pssd_as {X : Cx} {J : Jr} {sts : List Stmt} (q : QS) {q' : QS} (h : PSsd J X sts q) (e : q' = q := by rfl) : PSsd J X sts q' := by
  rw [e]
  exact h
end Zd

set_option Elab.async false
set_option linter.all false
set_option maxRecDepth 100000
set_option maxHeartbeats 4000000
namespace Zd
open PySem PySem.Spec PyProof.Rows L2 PySem.W
/-! ### sorted of any list or tuple of data of one kind -/
section
variable {prog : Program} {w : World} {A : Around} {E : Value → Shared → Prop} {s : Shared}
theorem sorted_seqD {β : Type} {R : Value → β → Prop} {enc : β → PyData} {bs : List β} {it : Addr} {T : String} {o : Obj} {items : Array Value} {n : Nat} {Q : Value → Shared → Prop} (hT : T = "list" ∨ T = "tuple") (ho : s.heap.get? it = some o) (hc : o.cls = .type T) (hd : o.data = .seq items n)
    (e : EachIs R items.toList bs) (er : EachIs (fun v b => ∃ as, Reads s.heap v (enc b) as) items.toList bs) (hal : AllAlike (bs.map enc)) (hk : Sortable (bs.map enc)) (hL : bs.length ≤ sizeLine)
    (hu : ∀ b, b ∈ bs → A.units + 3 + (enc b).depth < cLine)
    (h : ∀ (out : List Value) (h1 h' : Heap) (c : Nat), EachIs R out (bs.mergeSort (dataLe false enc)) → (∀ b u, s.heap.get? b = some u → h1.get? b = some u) → (∀ b u, h1.get? b = some u → h'.get? b = some u) → h'.get? h1.objs.size = some (seqObj "list" out.toArray c) → Q (.ref h1.objs.size) { s with heap := h' }) :
    wpAny (model prog w) A (call (.builtin "sorted") [.ref it]) Q E s := by
  have hlen : items.size = bs.length := by rw [← Array.length_toList]; exact e.length
  refine Calls.call_function_entry kind_sorted plain_sorted entry_sorted (args_sorted1 _) ?_
  unfold Builtin.«sorted»
  refine wpAny_bind (m := checkCount "sorted" 1 1 _) (wpAny_pure ?_)
  refine wpAny_bind (wpAny_collect_seq it hT ho hc hd (fun h1 keep => ?_) (by rw [hlen]; exact hL))
  refine wpAny_bind (wpAny_newList ?_ (by rw [Array.length_toList, hlen]; exact hL))
  have hoL : (h1.push { cls := .type "list", data := .seq items.toList.toArray }).get? h1.objs.size = some (seqObj "list" items.toList.toArray 0) := Heap.get?_push_size _ rfl
  have kp : ∀ b u, s.heap.get? b = some u → (h1.push { cls := .type "list", data := .seq items.toList.toArray }).get? b = some u := fun b u q => Heap.get?_push_of_some _ (keep b u q)
  refine wpAny_bind (wpAny_holding (list_sort_data (s := { s with heap := h1.push { cls := .type "list", data := .seq items.toList.toArray } }) hoL e ?_ hal hk hL (fun b hb => ?_) fun out hol hout => ?_))
  · refine er.mono fun v b ⟨as, r⟩ => ⟨as, PyProof.Rows.Reads.keeps kp r, fun hm => ?_⟩
    obtain ⟨u, hu⟩ := PyProof.On.reads_mem_get (PyProof.Rows.Reads.keeps keep r) _ hm
    exact absurd (Heap.lt_size hu) (Nat.lt_irrefl _)
  · have := hu b hb
    show A.in1.units + 1 + _ < _
    have e : A.in1.units ≤ A.units + 1 := by unfold Around.in1; simp
    omega
  · obtain ⟨c, hcc⟩ := sortedHeap_at (vs := items.toList) (out := out.toArray) hoL
    exact wpAny_pure ⟨_, rfl, h out h1 _ c hout keep (fun b u q => by
      have hlt := Heap.lt_size q
      refine (sortedHeap_old (Nat.ne_of_lt hlt) ?_).trans (Heap.get?_push_of_some _ q)
      exact Heap.lt_size (Heap.get?_push_of_some _ q)) hcc⟩
end
theorem eachIs_of {α β : Type} {R : α → β → Prop} : ∀ {as : List α} {bs : List β}, as.length = bs.length → (∀ (i : Nat) a b, as[i]? = some a → bs[i]? = some b → R a b) → EachIs R as bs
  | [], [], _, _ => .nil
  | [], _ :: _, h, _ => by simp at h
  | _ :: _, [], h, _ => by simp at h
  | a :: as, b :: bs, h, f => .cons (f 0 a b rfl rfl) (eachIs_of (by simpa using h) fun i x y h1 h2 => f (i + 1) x y (by simpa using h1) (by simpa using h2))
theorem eachIs_split {K : PySem.W.Frag} {H0 : Hp} : ∀ {us : List Value} {ds : List D}, EachIs (fun u d => ∃ v, RelV v u ∧ Dq K H0 v d) us ds → ∃ vs, Vals vs us ∧ DqAll K H0 vs ds
  | _, _, .nil => ⟨[], .nil, .nil⟩
  | _, _, .cons h t => by
    obtain ⟨v, h1, h2⟩ := h
    obtain ⟨vs, h3, h4⟩ := eachIs_split t
    exact ⟨v :: vs, .cons h1 h3, .cons h2 h4⟩
/-- a list or a tuple of data that can be sorted -/
def SrtOk (ds : List D) : Prop := AllAlike ds ∧ Sortable ds ∧ ds.length ≤ sizeLine ∧ ∀ d ∈ ds, PyData.depth d ≤ 50
def srtD (ds : List D) : List D := ds.mergeSort (dataLe false id)
def rSortD (K : PySem.W.Frag) : List V → Hp → VK → Prop := fun xs H Q => ∃ (a : Addr) (vs : List V) (ds : List D) (H0 : Hp), xs = [.ref a] ∧ (SqL K H a vs ∨ SqT K H a vs) ∧ Same H0 H ∧ DqAll K H0 vs ds ∧ SrtOk ds ∧ ∀ p zs, H p = none → DqAll K H0 zs (srtD ds) → Q (.ref p) (upd H p (.lst zs))
theorem call_sortD {X : Cx} (hu : X.A.units + 64 < cLine) : CallR X (.builtin "sorted") (rSortD X.K) := by
  intro pins s σ H xs us Q I r h
  obtain ⟨a, vs, ds, H0, rfl, hq, S, hd, ⟨k1, k2, k3, k4⟩, q⟩ := h
  obtain ⟨u, rfl, rx⟩ := vals1 r
  cases rx
  have go : ∀ (its : List Value), Vals vs its → ∀ (T : String) (o : Obj) (n : Nat), T = "list" ∨ T = "tuple" → s.heap.get? a = some o → o.cls = .type T → o.data = .seq its.toArray n → wpAny (model X.prog X.w) X.A (call (.builtin "sorted") [.ref a]) (EP X pins σ Q) X.xe s := fun its rv T o n hT ho hc hdd => by
    have hl : its.length = ds.length := by rw [← rv.length]; exact dpa_len hd
    refine sorted_seqD (enc := id) (R := fun u d => ∃ v, RelV v u ∧ Dq X.K H0 v d) hT ho hc hdd (eachIs_of (by simpa using hl) fun i u d h1 h2 => ?_) (eachIs_of (by simpa using hl) fun i u d h1 h2 => ?_) (by rw [List.map_id]; exact k1) (by rw [List.map_id]; exact k2) k3 (fun b hb => ?_) fun out h1 h' c hout kp1 kp2 hcc => ?_
    · have h1 : its[i]? = some u := h1
      obtain ⟨v, e1, e2⟩ := dpa_get' hd h2
      obtain ⟨u', e3, e4⟩ := rv.get e1
      rw [h1] at e3
      cases e3
      exact ⟨v, e4, e2⟩
    · have h1 : its[i]? = some u := h1
      obtain ⟨v, e1, e2⟩ := dpa_get' hd h2
      obtain ⟨u', e3, e4⟩ := rv.get e1
      rw [h1] at e3
      cases e3
      exact L2.Dp.reads I d v u (dq_dp d v (dp_mono S d v e2)) e4
    · have := k4 b hb
      show X.A.units + 3 + PyData.depth b < cLine
      omega
    · obtain ⟨zs, z1, z2⟩ := eachIs_split hout
      have I1 : Inv X pins σ H { s with heap := h1 } := I.kept (t' := s.toks) kp1
      have hlen : zs.length ≤ sizeLine := by rw [dpa_len z2, List.length_mergeSort]; exact k3
      have I2 : Inv X pins σ (upd H h1.objs.size (.lst zs)) { s with heap := h' } := I1.laid (t' := s.toks) kp2 (Nat.le_refl _) (show ObjOk X.prog X.w _ h' _ (.lst zs) from ⟨hlen, out, c, z1, hcc⟩)
      exact ⟨.ref h1.objs.size, _, I2, rfl, q _ zs (I1.hok.fresh (Nat.le_refl _)) z2⟩
  rcases hq with hq | hq
  · obtain ⟨its, r', pl, hz⟩ := I.list hq
    obtain ⟨o, ho, hc, n, hd'⟩ := pl.isList
    exact go its r' "list" o n (.inl rfl) ho hc hd'
  · obtain ⟨its, r', pl, hz⟩ := I.tuple hq
    obtain ⟨o, ho, hc, n, hd'⟩ := pl
    exact go its r' "tuple" o n (.inr rfl) ho hc hd'
section
variable {X : Cx} {J : Jr}
def cSortD : DCl := fun ds P => match ds with
  | [.list x] => SrtOk x ∧ P (.ow (srtD x))
  | [.tuple x] => SrtOk x ∧ P (.ow (srtD x))
  | _ => False
theorem cl_sortD (hu : X.A.units + 64 < cLine) : DclOk J X (.builtin "sorted") cSortD := ⟨_, call_sortD hu, fun n σ H H0 ρ vs ds P Q R hp w k => by
  match ds, w with
  | [.list x], w =>
    obtain ⟨v, rfl, h⟩ := paired1 hp
    obtain ⟨p, xs, rfl, s1, m1⟩ := h.lst R.sub
    refine ⟨p, xs, x, H0, rfl, .inl s1, R.sub, m1, w.1, fun l zs hl hz => ?_⟩
    obtain ⟨r1, r2⟩ := R.newL hl hz
    exact k _ _ _ _ r1 (.refl _) r2 w.2
  | [.tuple x], w =>
    obtain ⟨v, rfl, h⟩ := paired1 hp
    obtain ⟨p, xs, rfl, s1, m1⟩ := h.tup
    refine ⟨p, xs, x, H0, rfl, .inr (same_t R.sub s1), R.sub, m1, w.1, fun l zs hl hz => ?_⟩
    obtain ⟨r1, r2⟩ := R.newL hl hz
    exact k _ _ _ _ r1 (.refl _) r2 w.2⟩
end
end Zd

set_option Elab.async false
set_option linter.all false
set_option maxRecDepth 100000
set_option maxHeartbeats 4000000
namespace Zd
open PySem PySem.Spec PyProof.Rows L2
section
variable {X : Cx} {J : Jr} {e a b c : Expr} {es : List Expr} {pos : Pos}
/-! ### a op1 b op2 c -/
def qChain (f g : DOp) (qa qb qc : QD) : QR := fun ρ P => qa ρ fun d ρ1 => qb ρ1 fun e ρ2 => f d e fun s => isB s fun k => if k = true then qc ρ2 fun h ρ3 => g e h fun s => P s ρ3 else P (.da (.bool false)) ρ2
theorem chain_mono {r r' : R2} {f g : DOp} {qa qb qc : QD} (hr : OpIs X.K J r f) (hr' : OpIs X.K J r' g) : ∀ σ H Q, tR X.K J (qChain f g qa qb qc) σ H Q → tChain r r' (tD X.K J qa) (tD X.K J qb) (tV X.K J qc) σ H Q := fun σ H Q ⟨n, H0, ρ, P, R, w, k⟩ =>
  ⟨n, H0, ρ, _, R, w, fun x H1 H01 d ρ1 R1 S1 hd w1 => ⟨n, H01, ρ1, _, R1, w1, fun y H2 H02 e ρ2 R2 S2 he w2 =>
    hr n σ H2 H02 ρ2 x y d e _ _ R2 (.of (dp_mono S2 d x hd)) (.of he) w2 fun v H' H0' s R' S' hs hp => by
      cases s with
      | da d' =>
        cases d' with
        | bool q =>
          have ev := dp_bool hs
          subst ev
          refine ⟨q, rfl, ?_⟩
          cases q with
          | false =>
            rw [if_neg (by decide)]
            exact k _ H' H0' (.da (.bool false)) ρ2 R' ((S1.trans S2).trans S') hs hp
          | true =>
            rw [if_pos rfl]
            exact ⟨n, H0', ρ2, _, R', hp, fun u H4 H04 h ρ4 R4 S4 hh w4 => hr' n σ H4 H04 ρ4 y u e h _ Q R4 (.of (dp_mono (S'.trans S4) e y he)) hh w4 fun v H5 H05 s R5 S5 hs5 hp5 => k v H5 H05 s ρ4 R5 ((((S1.trans S2).trans S').trans S4).trans S5) hs5 hp5⟩
        | _ => exact hp.elim
      | _ => exact hp.elim⟩⟩
theorem pr_chain {op op' : CmpOp} {f g : DOp} {qa qb qc : QD} (ho : DopOk J X (compareOp op) f) (ho' : DopOk J X (compareOp op') g) (ha : PD J X a qa) (hb : PD J X b qb) (hc : PV J X c qc) (hm : lastMarks [op, op'] [b, c] = false := by with_unfolding_all rfl) :
    PR J X (.Compare a [op, op'] [b, c] pos) (qChain f g qa qb qc) := by
  obtain ⟨r, h1, h2⟩ := ho
  obtain ⟨r', h1', h2'⟩ := ho'
  exact pe_mono (pe_chain h1 h1' ha hb hc hm) (chain_mono h2 h2')
theorem pb_chain {op op' : CmpOp} {f g : DOp} {qa qb qc : QD} (ho : DopOk J X (compareOp op) f) (ho' : DopOk J X (compareOp op') g) (ha : PD J X a qa) (hb : PD J X b qb) (hc : PV J X c qc) (hm : lastMarks [op, op'] [b, c] = false := by with_unfolding_all rfl) :
    PB J X (.Compare a [op, op'] [b, c] pos) (qTst (qChain f g qa qb qc)) := by
  obtain ⟨r, h1, h2⟩ := ho
  obtain ⟨r', h1', h2'⟩ := ho'
  exact pt_mono (pt_chain h1 h1' ha hb hc hm) (tst_mono (chain_mono h2 h2'))
/-! ### x.upper() -/
def qUpper (qa : QD) : QD := fun ρ P => qa ρ fun d ρ' => ∃ x, d = .str x ∧ x.length ≤ 5592405 ∧ P (.str (Txt.upper x)) ρ'
theorem pd_upper {qa : QD} {o : Expr} {apos : Pos} (ho : PD J X o qa) (hbase : attributeBase o "upper" X.env (eval o X.env) = eval o X.env := by rfl) (hline : (apos.endLine == pos.line) = true := by rfl) :
    PD J X (.Call (.Attribute o "upper" apos) [] [] pos) (qUpper qa) := pe_mono (pe_upper ho hbase hline) fun σ H Q ⟨n, H0, ρ, P, R, w, k⟩ =>
  ⟨n, H0, ρ, _, R, w, fun v H1 H01 d ρ1 R1 S1 hd ⟨x, ed, hl, hp⟩ => by
    subst ed
    have ev := dp_str hd
    subst ev
    exact ⟨⟨x, rfl⟩, x, rfl, rfl, hl, k _ H1 H01 (.str (Txt.upper x)) ρ1 R1 S1 (.str _) hp⟩⟩
/-! ### x.pop(i), x the def's own list -/
def qPopAt (i : Nat) (qa : QD) : QR := fun ρ P => (∃ ds, ρ[i]? = some (.ow ds)) ∧ qa ρ fun d ρ' => match ρ'[i]? with
  | some (.ow ds) => ∃ (k : Nat) (x : D), d = .int k ∧ k < 2 ^ 62 ∧ ds[k]? = some x ∧ P (.da x) (ρ'.set i (.ow (ds.eraseIdx k)))
  | _ => False
theorem dpa_erase {K : PySem.W.Frag} {H : Hp} : ∀ {xs : List V} {ds : List D} (k : Nat), DqAll K H xs ds → DqAll K H (xs.eraseIdx k) (ds.eraseIdx k)
  | _, _, _, .nil => .nil
  | _, _, 0, .cons _ t => t
  | _, _, k + 1, .cons h t => .cons h (dpa_erase k t)
theorem pr_popAt {i : Nat} {qa : QD} {o : Expr} {apos : Pos} (ho : PE X o (tVar i)) (ha : PD J X e qa)
    (hbase : attributeBase o "pop" X.env (eval o X.env) = eval o X.env := by rfl)
    (hfew : ((backTo pos (starEach [e] X.env)).all (fun x => !x.1) && (backToKw pos (keywordEach [] X.env)).all (fun x => x.1.isSome) && decide ([e].length + ([] : List Keyword).length + (if ([] : List Keyword).isEmpty then 0 else 1) < 30)) = true := by rfl)
    (hline : (apos.endLine == pos.line) = true := by rfl) (hs : starEach [e] X.env = (false, eval e X.env) :: starEach [] X.env := by rfl) (hplain : (backTo pos (starEach [] X.env)).any (·.1) = false := by rfl) :
    PR J X (.Call (.Attribute o "pop" apos) [e] [] pos) (qPopAt i qa) :=
  pe_mono (pe_bm PySem.F.plainAttrs_list PySem.F.slot_list_pop PySem.F.type_list_pop mt_popAt ho (pa_cons ha pa_nil hs) hbase hfew hline hs hplain) fun σ H Q ⟨n, H0, ρ, P, R, ⟨⟨ds, e⟩, w⟩, k⟩ => by
    obtain ⟨a, xs, h1, h2, h3, h4, h5⟩ := R.sl i _ e
    refine ⟨_, h1, .inl ⟨rfl, xs, SqL.of h2⟩, n, H0, ρ, _, R, w, fun v H1 H01 d ρ1 R1 S1 hd w1 => ?_⟩
    cases e1 : ρ1[i]? with
    | none => rw [e1] at w1; exact w1.elim
    | some s =>
      rw [e1] at w1
      cases s with
      | ow es =>
        obtain ⟨j, x, rfl, hj, hx, hp⟩ := w1
        obtain ⟨b, ys, g1, g2, g3, g4, g5⟩ := R1.sl i _ e1
        rw [h1] at g1
        cases g1
        have ev := dp_int hd
        subst ev
        obtain ⟨y, hy, hdy⟩ := dpa_get' g3 hx
        have hl := (List.getElem?_eq_some_iff.mp hy).1
        exact ⟨a, ys, (j : Int), j, y, rfl, rfl, g2, by omega, by omega, by
          unfold seqIndex?
          have e1 : ¬ ((j : Nat) : Int) < 0 := by omega
          have e2 : (0 ≤ ((j : Nat) : Int)) := by omega
          have e3 : ((j : Nat) : Int) < ys.length := by omega
          simp [e1, e2, e3], hy, k y _ H01 (.da x) _ (R1.own_put e1 h1 (dpa_erase j g3)) S1 hdy hp⟩
      | _ => exact w1.elim
/-! ### what is never reached -/
def qDead : QD := fun _ _ => False
theorem pd_dead : PD J X e qDead := ⟨fun _ _ _ _ _ _ ⟨_, _, _, _, _, w, _⟩ => w.elim⟩
def qDeadS : QS := fun _ _ => False
theorem psd_dead {st : Stmt} : PSd J X st qDeadS := ⟨fun _ _ _ _ _ _ ⟨_, _, _, _, _, w, _⟩ => w.elim⟩
/-- a try whose suite raises nothing -/
theorem psd_try_thru {q : QS} {body : List Stmt} {h₀ : ExceptHandler} {hs : List ExceptHandler} (hb : PSsd J X.nox body q) : PSd J X (.Try body (h₀ :: hs) [] [] pos) q := ps_try_thru0 hb
/-! ### a look at the closed drawing thing: jar[k] -/
def qJsee (good : Jc → Prop) (i k : Nat) : QR := fun ρ P => ρ[i]? = some .ja ∧ ∀ c, good c → ∃ d, c.top = none ∧ c.es[k]? = some (.d d) ∧ flatD d = true ∧ P (.da d) ρ
theorem pr_jsee {good : Jc → Prop} {o : Expr} {i k : Nat} {z : Int} {j : Nat} {p1 : Pos} (ho : PE X o (tVar i)) (hz : z = (k : Int)) : PR (jarN X.K good) X (.Subscript o (.Constant (.int z) j p1) pos) (qJsee good i k) := pe_mono (pe_in ho hz) fun σ H Q ⟨n, H0, ρ, P, R, ⟨hj, w⟩, kk⟩ => by
  obtain ⟨q1, q2⟩ := R.sl i _ hj
  obtain ⟨c, hc, j0, xs, bs, e1, e2, e3, e4, e5, e6⟩ := R.jar q2
  obtain ⟨d, ht, hk, hf, hp⟩ := w c hc
  rw [ht] at e3
  obtain ⟨x, g1, g2, g3⟩ := e4.get hk
  exact ⟨j0, xs, x, by rw [q1, e2], e3, g1, kk x H H0 (.da d) ρ R (.refl _) (flat_any g2 hf) hp⟩
end
end Zd

set_option Elab.async false
set_option linter.all false
set_option maxRecDepth 100000
set_option maxHeartbeats 4000000
namespace Zd
open PySem PySem.Spec PyProof.Rows L2
/-! ### a dict of the def's own in a slot: {..}, x[e], e in x, x[e] = v -/
theorem zip_fst : ∀ {α β : Type} {as : List α} {bs : List β}, as.length = bs.length → (as.zip bs).map (·.1) = as
  | _, _, [], [], _ => rfl
  | _, _, a :: as, b :: bs, h => by
    rw [List.zip_cons_cons, List.map_cons, zip_fst (by simpa using h)]
  | _, _, [], _ :: _, h => by cases h
  | _, _, _ :: _, [], h => by cases h
theorem zip_snd : ∀ {α β : Type} {as : List α} {bs : List β}, as.length = bs.length → (as.zip bs).map (·.2) = bs
  | _, _, [], [], _ => rfl
  | _, _, a :: as, b :: bs, h => by
    rw [List.zip_cons_cons, List.map_cons, zip_snd (by simpa using h)]
  | _, _, [], _ :: _, h => by cases h
  | _, _, _ :: _, [], h => by cases h
theorem zip_parts {α β : Type} (l : List (α × β)) : (l.map (·.1)).zip (l.map (·.2)) = l := by
  induction l with
  | nil => rfl
  | cons a l ih => rw [List.map_cons, List.map_cons, List.zip_cons_cons, ih]
abbrev Kvs := List (L2.Key × D)
/-- the value at a key -/
def getK : Kvs → L2.Key → Option D
  | [], _ => none
  | (k0, d) :: r, k => if k = k0 then some d else getK r k
/-- a key gets a value -/
def setK : Kvs → L2.Key → D → Kvs
  | [], k, d => [(k, d)]
  | (k0, d0) :: r, k, d => if k = k0 then (k0, d) :: r else (k0, d0) :: setK r k d
theorem getK_v {K : PySem.W.Frag} {H : Hp} {k : L2.Key} : ∀ (ds : Kvs) (xs : List V), DqAll K H xs (ds.map (·.2)) → (match getK ds k with
    | some d => ∃ v, valV ((ds.map (·.1)).zip xs) k = some v ∧ Dq K H v d
    | none => valV ((ds.map (·.1)).zip xs) k = none)
  | [], xs, h => by rfl
  | (k0, d0) :: ds, [], h => by cases h
  | (k0, d0) :: ds, x :: xs, h => by
    cases h with
    | cons h1 h2 =>
      have ih := getK_v (k := k) ds xs h2
      unfold getK
      by_cases q : k = k0
      · rw [if_pos q]
        exact ⟨x, valV_pos q.symm, h1⟩
      · rw [if_neg q]
        have e : valV ((((k0, d0) :: ds).map (·.1)).zip (x :: xs)) k = valV ((ds.map (·.1)).zip xs) k := by
          unfold valV
          rw [List.map_cons, List.zip_cons_cons, List.find?_cons]
          have q' : decide (((k0, x) : L2.Key × V).1 = k) = false := decide_eq_false fun z => q z.symm
          rw [q']
        rw [e]
        exact ih
theorem putK_cons {k0 k : L2.Key} {x v : V} {r : List (L2.Key × V)} : putK ((k0, x) :: r) k v = if k0 = k then (k0, v) :: (r.map fun p => if p.1 = k then (p.1, v) else p) else (k0, x) :: putK r k v := by
  unfold putK
  by_cases q : k0 = k
  · simp [q]
  · simp only [List.any_cons, q, decide_false, Bool.false_or, List.map_cons, if_false, List.cons_append]
    split <;> rfl
theorem setK_put {K : PySem.W.Frag} {H : Hp} {k : L2.Key} {v : V} {d : D} (hd : Dq K H v d) : ∀ (ds : Kvs) (xs : List V), (ds.map (·.1)).Nodup → DqAll K H xs (ds.map (·.2)) → ∃ ys, putK ((ds.map (·.1)).zip xs) k v = ((setK ds k d).map (·.1)).zip ys ∧ DqAll K H ys ((setK ds k d).map (·.2))
  | [], xs, _, h => by
    cases h
    exact ⟨[v], rfl, .cons hd .nil⟩
  | (k0, d0) :: ds, [], _, h => by cases h
  | (k0, d0) :: ds, x :: xs, nd, h => by
    cases h with
    | cons h1 h2 =>
      rw [List.map_cons, List.zip_cons_cons, putK_cons]
      unfold setK
      by_cases q : k = k0
      · rw [if_pos q, if_pos q.symm]
        refine ⟨v :: xs, ?_, .cons hd h2⟩
        rw [List.map_cons, List.zip_cons_cons]
        refine congrArg ((k0, v) :: ·) ?_
        have nk : k0 ∉ ds.map (·.1) := (List.nodup_cons.mp nd).1
        have id : ∀ p ∈ (ds.map (·.1)).zip xs, (if p.1 = k then (p.1, v) else p) = p := by
          intro p hp
          rw [if_neg]
          intro z
          exact nk (by rw [← q, ← z]; exact (List.of_mem_zip (a := p.1) (b := p.2) hp).1)
        rw [List.map_congr_left id, List.map_id']
      · rw [if_neg q, if_neg (fun z => q z.symm)]
        obtain ⟨ys, e1, e2⟩ := setK_put hd ds xs (List.nodup_cons.mp nd).2 h2
        refine ⟨x :: ys, ?_, .cons h1 e2⟩
        rw [e1]
        rfl
def seeOd (s : Option Sl) (P : Kvs → Prop) : Prop := match s with
  | some (.od ds) => P ds
  | _ => False
def isOd (s : Option Sl) : Prop := match s with
  | some (.od _) => True
  | _ => False
theorem Rp.odAt {K : PySem.W.Frag} {J : Jr} {n : En} {σ : L2.St} {H H0 : Hp} {ρ : List Sl} (R : Rp K J n σ H H0 ρ) {i : Nat} {P : Kvs → Prop} (h : seeOd ρ[i]? P) : ∃ a xs ds, ρ[i]? = some (.od ds) ∧ σ[i]? = some (some (V.ref a)) ∧ H a = some (.dK ((ds.map (·.1)).zip xs)) ∧ DqAll K H0 xs (ds.map (·.2)) ∧ P ds := by
  cases e : ρ[i]? with
  | none => rw [e] at h; exact h.elim
  | some s =>
    rw [e] at h
    cases s with
    | od ds =>
      obtain ⟨a, xs, h1, h2, h3, _⟩ := R.sl i _ e
      exact ⟨a, xs, ds, rfl, h1, h2, h3, h⟩
    | _ => exact h.elim
theorem Rp.odV {K : PySem.W.Frag} {J : Jr} {n : En} {σ : L2.St} {H H0 : Hp} {ρ : List Sl} (R : Rp K J n σ H H0 ρ) {i : Nat} (h : isOd ρ[i]?) : ∃ a, σ[i]? = some (some (V.ref a)) := by
  obtain ⟨a, xs, ds, _, h1, _⟩ := R.odAt (P := fun _ => True) (i := i) (by
    cases e : ρ[i]? with
    | none => rw [e] at h; exact h
    | some s =>
      rw [e] at h
      cases s with
      | od ds => trivial
      | _ => exact h)
  exact ⟨a, h1⟩
section
variable {X : Cx} {J : Jr} {e o : Expr} {es : List Expr} {pos : Pos}
/-- a written dict as a new dict -/
def qDx (ts : Kq) : QR := fun ρ P => qPs (ts.map (·.2)) ρ fun ds ρ1 => P (.od ((ts.map (·.1)).zip ds)) ρ1
theorem pr_dx {ts : Kq} {keys : List (Option Expr)} {values : List Expr} (h : PPs X pos keys values (ts.map fun p => (tC (kV p.1), tD X.K J p.2))) (hnd : (ts.map (·.1)).Nodup) (h15 : decide (ts.length ≤ 15) = true) (hall : keys.all (·.isSome) = true := by rfl) (hl : keys.length = values.length := by rfl)
    (h0 : keys ≠ [] := by intro z; cases z) (hk15 : decide (keys.length ≤ 15) = true := by rfl) : PR J X (.Dict keys values pos) (qDx ts) :=
  pe_mono (pe_dx h hnd h15 hall hl h0 hk15) fun σ H Q ⟨n, H0, ρ, P, R, w, k⟩ => by
    refine ⟨n, H0, ρ, _, R, w, fun p kvs H1 H01 ds ρ1 R1 S1 na hep h0p jd hk hds w1 => ?_⟩
    have hkp := Rp.kept na R1
    have len : (ts.map (·.1)).length = ds.length := by
      rw [← hk, List.length_map, ← dpa_len hds, List.length_map]
    refine k (.ref p) H1 H01 (.od ((ts.map (·.1)).zip ds)) ρ1 (R1.unkeep hep jd) S1 ⟨p, kvs.map (·.2), rfl, ?_, ?_, h0p, hep, (Rp.kept_apart R1).2⟩ w1
    · rw [zip_fst len, ← hk, zip_parts]
      exact hkp
    · rw [zip_snd len]
      exact hds
/-- x[e], x a dict of the def's own -/
def qOdGet (i : Nat) (qe : QD) : QD := fun ρ P => isOd ρ[i]? ∧ qe ρ fun d ρ1 => seeOd ρ1[i]? fun ds => ∃ k dv, keyD d = some k ∧ getK ds k = some dv ∧ P dv ρ1
theorem pd_odget {i : Nat} {qe : QD} (hu : X.A.units + 64 < cLine) (ho : PE X o (tVar i)) (he : PD J X e qe) (hs : NoSl e) : PD J X (.Subscript o e pos) (qOdGet i qe) :=
  pe_mono (pe_dget (by omega) ho he hs) fun σ H Q ⟨n, H0, ρ, P, R, w, k⟩ => by
    obtain ⟨a, ha⟩ := R.odV w.1
    refine ⟨_, ha, n, H0, ρ, _, R, w.2, fun v H1 H01 d ρ1 R1 S1 hd w1 => ?_⟩
    obtain ⟨b, xs, ds, _, e1, e2, e3, kk, dv, k1, k2, hP⟩ := R1.odAt w1
    rw [ha] at e1
    cases e1
    have hv := keyD_v hd k1
    subst hv
    have g := getK_v (k := kk) ds xs e3
    rw [k2] at g
    obtain ⟨u, g1, g2⟩ := g
    refine ⟨a, u, rfl, ?_, k u H1 H01 dv ρ1 R1 S1 g2 hP⟩
    have g := DGet.k (k := kk) e2
    rw [g1] at g
    exact g
theorem getK_is {K : PySem.W.Frag} {H H0 : Hp} {a : Addr} {k : L2.Key} {ds : Kvs} {xs : List V} (e2 : H a = some (.dK ((ds.map (·.1)).zip xs))) (e3 : DqAll K H0 xs (ds.map (·.2))) : ∃ ov, DGet H a (kV k) ov ∧ ov.isSome = (getK ds k).isSome := by
  refine ⟨_, DGet.k (k := k) e2, ?_⟩
  have g := getK_v (k := k) ds xs e3
  cases h : getK ds k with
  | none => rw [h] at g; rw [show valV _ k = none from g]; rfl
  | some d => rw [h] at g; obtain ⟨u, g1, _⟩ := g; rw [g1]; rfl
/-- e in x, e not in x -/
def qOdIn (i : Nat) (f : Bool → Bool) (qe : QD) : QR := fun ρ P => qe ρ fun d ρ1 => seeOd ρ1[i]? fun ds => ∃ k, keyD d = some k ∧ P (.da (.bool (f (getK ds k).isSome))) ρ1
theorem odin_ready {n : En} {σ : L2.St} {H1 H01 : Hp} {ρ1 : List Sl} {i : Nat} {v : V} {d : D} {f : Bool → Bool} {Q : Sl → List Sl → Prop} (R1 : Rp X.K J n σ H1 H01 ρ1) (hd : Dq X.K H01 v d)
    (w : seeOd ρ1[i]? fun ds => ∃ k, keyD d = some k ∧ Q (.da (.bool (f (getK ds k).isSome))) ρ1) : ∃ a ov, σ[i]? = some (some (V.ref a)) ∧ DGet H1 a v ov ∧ Q (.da (.bool (f ov.isSome))) ρ1 := by
  obtain ⟨a, xs, ds, _, e1, e2, e3, kk, k1, hP⟩ := R1.odAt w
  have hv := keyD_v hd k1
  subst hv
  obtain ⟨ov, g1, g2⟩ := getK_is (k := kk) e2 e3
  exact ⟨a, ov, e1, g1, by rw [g2]; exact hP⟩
theorem pr_odin {i : Nat} {qe : QD} (hu : X.A.units + 64 < cLine) (ho : PE X o (tVar i)) (he : PD J X e qe) (h1 : behindInMarks .In o = false := by rfl) : PR J X (.Compare e [.In] [o] pos) (qOdIn i (fun b => b) qe) :=
  pe_mono (pe_cmp (pc_din (by omega) he ho) h1) fun σ H Q ⟨n, H0, ρ, P, R, w, k⟩ => ⟨n, H0, ρ, _, R, w, fun v H1 H01 d ρ1 R1 S1 hd w1 => by
    obtain ⟨a, ov, e1, g1, hP⟩ := odin_ready (f := fun b => b) R1 hd w1
    exact ⟨_, e1, a, ov, rfl, g1, k _ H1 H01 (.da (.bool ov.isSome)) ρ1 R1 S1 (Dq.bl _) hP⟩⟩
theorem pr_odnotin {i : Nat} {qe : QD} (hu : X.A.units + 64 < cLine) (ho : PE X o (tVar i)) (he : PD J X e qe) (h1 : behindInMarks .NotIn o = false := by rfl) : PR J X (.Compare e [.NotIn] [o] pos) (qOdIn i (fun b => !b) qe) :=
  pe_mono (pe_cmp (pc_dnotin (by omega) he ho) h1) fun σ H Q ⟨n, H0, ρ, P, R, w, k⟩ => ⟨n, H0, ρ, _, R, w, fun v H1 H01 d ρ1 R1 S1 hd w1 => by
    obtain ⟨a, ov, e1, g1, hP⟩ := odin_ready (f := fun b => !b) R1 hd w1
    exact ⟨_, e1, a, ov, rfl, g1, k _ H1 H01 (.da (.bool (!ov.isSome))) ρ1 R1 S1 (Dq.bl _) hP⟩⟩
theorem pb_odin {i : Nat} {qe : QD} (hu : X.A.units + 64 < cLine) (ho : PE X o (tVar i)) (he : PD J X e qe) (h1 : behindInMarks .In o = false := by rfl) : PB J X (.Compare e [.In] [o] pos) (qTst (qOdIn i (fun b => b) qe)) :=
  pt_mono (pt_cmp (pc_din (by omega) he ho) h1) (tb_tst fun σ H Q ⟨n, H0, ρ, P, R, w, k⟩ => ⟨n, H0, ρ, _, R, w, fun v H1 H01 d ρ1 R1 S1 hd w1 => by
    obtain ⟨a, ov, e1, g1, hP⟩ := odin_ready (f := fun b => b) R1 hd w1
    exact ⟨_, e1, a, ov, rfl, g1, k _ H1 H01 (.da (.bool ov.isSome)) ρ1 R1 S1 (Dq.bl _) hP⟩⟩)
theorem pb_odnotin {i : Nat} {qe : QD} (hu : X.A.units + 64 < cLine) (ho : PE X o (tVar i)) (he : PD J X e qe) (h1 : behindInMarks .NotIn o = false := by rfl) : PB J X (.Compare e [.NotIn] [o] pos) (qTst (qOdIn i (fun b => !b) qe)) :=
  pt_mono (pt_cmp (pc_dnotin (by omega) he ho) h1) (tb_tst fun σ H Q ⟨n, H0, ρ, P, R, w, k⟩ => ⟨n, H0, ρ, _, R, w, fun v H1 H01 d ρ1 R1 S1 hd w1 => by
    obtain ⟨a, ov, e1, g1, hP⟩ := odin_ready (f := fun b => !b) R1 hd w1
    exact ⟨_, e1, a, ov, rfl, g1, k _ H1 H01 (.da (.bool (!ov.isSome))) ρ1 R1 S1 (Dq.bl _) hP⟩⟩)
/-- {} as a new dict -/
def qD0 : QR := fun ρ P => P (.od []) ρ
theorem pr_d0 : PR J X (.Dict [] [] pos) qD0 := pe_mono pe_dnewK fun σ H Q ⟨n, H0, ρ, P, R, w, k⟩ p hp =>
  k (.ref p) _ H0 (.od []) ρ (R.laid hp) (.refl _) ⟨p, [], rfl, upd_same, .nil, R.h0 hp, R.he0 hp, R.od_new hp⟩ w
/-- x[e] = v -/
def qOdPut (i : Nat) (qv qe : QD) : QS := fun E ρ => qv ρ fun v ρ1 => isOd ρ1[i]? ∧ qe ρ1 fun d ρ2 => seeOd ρ2[i]? fun ds => ∃ k, keyD d = some k ∧ (ds.map (·.1)).Nodup ∧ ds.length < sizeLine ∧ soleOd ρ2 i = true ∧ E.nx (ρ2.set i (.od (setK ds k v)))
theorem psd_odput {i : Nat} {qv qe : QD} {value : Expr} {p2 : Pos} (hu : X.A.units + 64 < cLine) (ho : PE X o (tVar i)) (he : PD J X e qe) (hv : PD J X value qv) (hs : swapsWith value (some (.Subscript o e p2)) pos.line X.env = pure false := by rfl) :
    PSd J X (.Assign [.Subscript o e p2] value pos) (qOdPut i qv qe) :=
  ps_mono (ps_dput (by omega) ho he hv hs) fun D σ H ⟨n, H0, ρ, E, R, w, kk, _⟩ => ⟨n, H0, ρ, _, R, w, fun v H1 H01 dv ρ1 R1 S1 hd w1 => by
    obtain ⟨a, ha⟩ := R1.odV w1.1
    refine ⟨_, ha, n, H01, ρ1, _, R1, w1.2, fun y H2 H02 d ρ2 R2 S2 hd2 w2 => ?_⟩
    obtain ⟨b, xs, ds, e0, e1, e2, e3, k, k1, k2, k3, k4, hP⟩ := R2.odAt w2
    rw [ha] at e1
    cases e1
    have hy := keyD_v hd2 k1
    subst hy
    obtain ⟨ys, y1, y2⟩ := setK_put (k := k) (dp_mono S2 dv v hd) ds xs k2 e3
    refine ⟨a, _, rfl, DPut.k e2 (by rw [List.length_zip, List.length_map, dpa_len e3, List.length_map, Nat.min_self]; exact k3), ?_⟩
    rw [y1]
    exact kk _ _ H02 _ (R2.od_put e0 k4 ha y2) (S1.trans S2) hP⟩
end
end Zd

set_option Elab.async false
set_option linter.all false
set_option maxRecDepth 100000
set_option maxHeartbeats 4000000
namespace Zd
open PySem PySem.Spec PyProof.Rows L2
def EndD.thn (E : EndD) (P : List Sl → Prop) : EndD := { E with nx := P }
theorem thn_nx (E : EndD) (P : List Sl → Prop) (ρ : List Sl) : (E.thn P).nx ρ = P ρ := rfl
theorem thn_rt (E : EndD) (P : List Sl → Prop) (r : Sl) (ρ : List Sl) : (E.thn P).rt r ρ = E.rt r ρ := rfl
theorem thn_bk (E : EndD) (P : List Sl → Prop) (ρ : List Sl) : (E.thn P).bk ρ = E.bk ρ := rfl
theorem thn_ct (E : EndD) (P : List Sl → Prop) (ρ : List Sl) : (E.thn P).ct ρ = E.ct ρ := rfl
/-! ### reading the meanings -/
theorem qRD_e (q : QD) (ρ : List Sl) (P : Sl → List Sl → Prop) : qRD q ρ P = (q ρ fun d ρ' => P (.da d) ρ') := rfl
theorem qDR_e (q : QR) (ρ : List Sl) (P : D → List Sl → Prop) : qDR q ρ P = (q ρ fun r ρ' => asD r fun d => P d ρ') := rfl
theorem qLook_e (i : Nat) (ρ : List Sl) (P : D → List Sl → Prop) : qLook i ρ P = (seeD ρ[i]? fun d => P d ρ) := rfl
theorem qVar_e (i : Nat) (ρ : List Sl) (P : D → List Sl → Prop) : qVar i ρ P = (seeD ρ[i]? fun d => P d (frz ρ i)) := rfl
theorem qMove_e (i : Nat) (ρ : List Sl) (P : Sl → List Sl → Prop) : qMove i ρ P = (match ρ[i]? with
  | some (.da d) => P (.da d) ρ
  | some (.ow ds) => P (.ow ds) (ρ.set i .un)
  | _ => False) := rfl
theorem qC_e (d : D) (ρ : List Sl) (P : D → List Sl → Prop) : qC d ρ P = (P d ρ) := rfl
theorem qBin_e (f : DOp) (qa qb : QD) (ρ : List Sl) (P : Sl → List Sl → Prop) : qBin f qa qb ρ P = (qa ρ fun d ρ1 => qb ρ1 fun e ρ2 => f d e fun s => P s ρ2) := rfl
theorem qBinN_e (f : DOp) (i : Nat) (qb : QD) (ρ : List Sl) (P : Sl → List Sl → Prop) : qBinN f i qb ρ P = (qb ρ fun e ρ2 => seeD ρ2[i]? fun d => f d e fun s => P s ρ2) := rfl
theorem qBinM_e (f : DOp) (i : Nat) (qb : QD) (ρ : List Sl) (P : Sl → List Sl → Prop) : qBinM f i qb ρ P = (known ρ i ∧ qBinN f i qb ρ P) := rfl
theorem qTst_e (q : QR) (ρ : List Sl) (P : Bool → List Sl → Prop) : qTst q ρ P = (q ρ fun r ρ' => isB r fun b => P b ρ') := rfl
theorem qTru_e (q : QD) (ρ : List Sl) (P : Bool → List Sl → Prop) : qTru q ρ P = (q ρ fun d ρ' => truP d fun b => P b ρ') := rfl
theorem qAnd_e (qa qb : QT) (ρ : List Sl) (P : Bool → List Sl → Prop) : qAnd qa qb ρ P = (qa ρ fun b ρ' => if b = true then qb ρ' P else P false ρ') := rfl
theorem qOr_e (qa qb : QT) (ρ : List Sl) (P : Bool → List Sl → Prop) : qOr qa qb ρ P = (qa ρ fun b ρ' => if b = true then P true ρ' else qb ρ' P) := rfl
theorem qNot_e (qa : QT) (ρ : List Sl) (P : Bool → List Sl → Prop) : qNot qa ρ P = (qa ρ fun b ρ' => P (!b) ρ') := rfl
theorem qAndV_e (qa qb : QD) (ρ : List Sl) (P : D → List Sl → Prop) : qAndV qa qb ρ P = (qa ρ fun d ρ' => ∃ c, d = .bool c ∧ if c = true then qb ρ' P else P (.bool false) ρ') := rfl
theorem qOrV_e (qa qb : QD) (ρ : List Sl) (P : D → List Sl → Prop) : qOrV qa qb ρ P = (qa ρ fun d ρ' => ∃ c, d = .bool c ∧ if c = true then P (.bool true) ρ' else qb ρ' P) := rfl
theorem qNotV_e (qa : QD) (ρ : List Sl) (P : D → List Sl → Prop) : qNotV qa ρ P = (qa ρ fun d ρ' => ∃ c, d = .bool c ∧ P (.bool (!c)) ρ') := rfl
theorem qIf_e (qt : QT) (qa qb : QR) (ρ : List Sl) (P : Sl → List Sl → Prop) : qIf qt qa qb ρ P = (qt ρ fun b ρ' => if b = true then qa ρ' P else qb ρ' P) := rfl
theorem qNil_e (ρ : List Sl) (P : List D → List Sl → Prop) : qNil  ρ P = (P [] ρ) := rfl
theorem qCons_e (qa : QD) (qr : QL) (ρ : List Sl) (P : List D → List Sl → Prop) : qCons qa qr ρ P = (qa ρ fun d ρ1 => qr ρ1 fun ds ρ2 => P (d :: ds) ρ2) := rfl
theorem qTup_e (q : QL) (ρ : List Sl) (P : D → List Sl → Prop) : qTup q ρ P = (q ρ fun ds ρ' => P (.tuple ds) ρ') := rfl
theorem qLst_e (q : QL) (ρ : List Sl) (P : Sl → List Sl → Prop) : qLst q ρ P = (q ρ fun ds ρ' => P (.ow ds) ρ') := rfl
theorem qNeg_e (q : QD) (ρ : List Sl) (P : D → List Sl → Prop) : qNeg q ρ P = (q ρ fun d ρ' => ∃ i, d = .int i ∧ P (.int (-i)) ρ') := rfl
theorem qO0_e (ρ : List Sl) (P : Option Int → List Sl → Prop) : qO0  ρ P = (P none ρ) := rfl
theorem qO1_e (q : QD) (ρ : List Sl) (P : Option Int → List Sl → Prop) : qO1 q ρ P = (q ρ fun d ρ' => ∃ i, d = .int i ∧ P (some i) ρ') := rfl
theorem qSl_e (qa : QD) (ql qh : QO) (ρ : List Sl) (P : Sl → List Sl → Prop) : qSl qa ql qh ρ P = (qa ρ fun d ρ1 => ql ρ1 fun lo ρ2 => qh ρ2 fun hi ρ3 => dSl d lo hi fun s => P s ρ3) := rfl
theorem qSlN_e (i : Nat) (ql qh : QO) (ρ : List Sl) (P : Sl → List Sl → Prop) : qSlN i ql qh ρ P = (known ρ i ∧ ql ρ fun lo ρ2 => qh ρ2 fun hi ρ3 => seeD ρ3[i]? fun d => dSl d lo hi fun s => P s ρ3) := rfl
theorem qCl_e (g : DCl) (qa : QL) (ρ : List Sl) (P : Sl → List Sl → Prop) : qCl g qa ρ P = (qa ρ fun ds ρ' => g ds fun s => P s ρ') := rfl
theorem qIsi_e (T : String) (q : QD) (ρ : List Sl) (P : D → List Sl → Prop) : qIsi T q ρ P = (q ρ fun d ρ' => ∃ r, kitB (tyD d) T = some r ∧ P (.bool r) ρ') := rfl
theorem qCall_e (pp : PPr) (qa : QA) (ρ : List Sl) (P : Sl → List Sl → Prop) : qCall pp qa ρ P = (qa ρ fun as ρ' => ∃ gs, resv ρ' as = some gs ∧ pp gs (hold P .mk ρ' as)) := rfl
theorem qaNil_e (ρ : List Sl) (P : List A → List Sl → Prop) : qaNil  ρ P = (P [] ρ) := rfl
theorem qaD_e (qa : QD) (qr : QA) (ρ : List Sl) (P : List A → List Sl → Prop) : qaD qa qr ρ P = (qa ρ fun d ρ1 => qr ρ1 fun as ρ2 => P (.d d :: as) ρ2) := rfl
theorem qaN_e (i : Nat) (qr : QA) (ρ : List Sl) (P : List A → List Sl → Prop) : qaN i qr ρ P = (given ρ i ∧ qr ρ fun as ρ2 => P (.n i :: as) ρ2) := rfl
theorem qApp_e (i : Nat) (qa : QD) (ρ : List Sl) (P : Sl → List Sl → Prop) : qApp i qa ρ P = ((∃ ds, ρ[i]? = some (.ow ds)) ∧ qa ρ fun d ρ' => match ρ'[i]? with
  | some (.ow ds) => ds.length < sizeLine ∧ P (.da .none) (ρ'.set i (.ow (ds ++ [d])))
  | _ => False) := rfl
theorem qExt_e (i : Nat) (qa : QR) (ρ : List Sl) (P : Sl → List Sl → Prop) : qExt i qa ρ P = ((∃ ds, ρ[i]? = some (.ow ds)) ∧ qa ρ fun r ρ' => match r with
  | .ow es => (match ρ'[i]? with
    | some (.ow ds) => ds.length + es.length ≤ sizeLine ∧ P (.da .none) (ρ'.set i (.ow (ds ++ es)))
    | _ => False)
  | _ => False) := rfl
theorem qPop_e (i : Nat) (ρ : List Sl) (P : Sl → List Sl → Prop) : qPop i ρ P = (match ρ[i]? with
  | some (.ow ds) => ∃ d, ds.getLast? = some d ∧ P (.da d) (ρ.set i (.ow ds.dropLast))
  | _ => False) := rfl
theorem qJoin_e (qo qe : QD) (ρ : List Sl) (P : D → List Sl → Prop) : qJoin qo qe ρ P = (qo ρ fun d ρ1 => ∃ a, d = .str a ∧ qe ρ1 fun e ρ2 => ∃ ds ys, rowD e = some ds ∧ strsD ds = some ys ∧ (ys.map (·.length)).sum + ys.length * a.length ≤ 16777216 ∧ P (.str (Txt.join a ys)) ρ2) := rfl
theorem qItD_e (q : QD) (ρ : List Sl) (P : List D → List Sl → Prop) : qItD q ρ P = (q ρ fun d ρ' => ∃ ds, itemsD d = some ds ∧ P ds ρ') := rfl
theorem qRng1_e (q : QL) (ρ : List Sl) (P : List D → List Sl → Prop) : qRng1 q ρ P = (q ρ fun ds ρ' => ∃ j, ds = [.int j] ∧ j < 2 ^ 62 ∧ -(2 ^ 62) ≤ j ∧ P (rangeD 0 j.toNat) ρ') := rfl
theorem qRng2_e (q : QL) (ρ : List Sl) (P : List D → List Sl → Prop) : qRng2 q ρ P = (q ρ fun ds ρ' => ∃ i j, ds = [.int i, .int j] ∧ (-(2 ^ 62) ≤ i ∧ i < 2 ^ 62 ∧ -(2 ^ 62) ≤ j ∧ j < 2 ^ 62) ∧ P (rangeD i (j - i).toNat) ρ') := rfl
theorem qgName_e (i : Nat) (d : D) (ρ : List Sl) (P : List Sl → Prop) : qgName i d ρ P = (P (ρ.set i (.da d))) := rfl
theorem qgNil_e (ds : List D) (ρ : List Sl) (P : List Sl → Prop) : qgNil  ds ρ P = (ds = [] ∧ P ρ) := rfl
theorem qgCons_e (q : QG) (r : QGs) (ds : List D) (ρ : List Sl) (P : List Sl → Prop) : qgCons q r ds ρ P = (match ds with
  | d :: ds => q d ρ fun ρ' => r ds ρ' P
  | [] => False) := rfl
theorem qgTup_e (m : Nat) (r : QGs) (d : D) (ρ : List Sl) (P : List Sl → Prop) : qgTup m r d ρ P = (match d with
  | .tuple ds => ds.length = m ∧ r ds ρ P
  | _ => False) := rfl
theorem qNext_e (E : EndD) (ρ : List Sl) : qNext  E ρ = (E.nx ρ) := rfl
theorem qSeq_e (q r : QS) (E : EndD) (ρ : List Sl) : qSeq q r E ρ = (q (E.thn (r E)) ρ) := rfl
theorem qBrk_e (E : EndD) (ρ : List Sl) : qBrk  E ρ = (E.bk ρ) := rfl
theorem qCnt_e (E : EndD) (ρ : List Sl) : qCnt  E ρ = (E.ct ρ) := rfl
theorem qDrop_e (q : QR) (E : EndD) (ρ : List Sl) : qDrop q E ρ = (q ρ fun _ ρ' => E.nx ρ') := rfl
theorem qRet_e (q : QR) (E : EndD) (ρ : List Sl) : qRet q E ρ = (q ρ fun r ρ' => E.rt r ρ') := rfl
theorem qRetN_e (E : EndD) (ρ : List Sl) : qRetN  E ρ = (E.rt (.da .none) ρ) := rfl
theorem qIfS_e (qc : QT) (q r : QS) (E : EndD) (ρ : List Sl) : qIfS qc q r E ρ = (qc ρ fun b ρ' => if b = true then q E ρ' else r E ρ') := rfl
theorem qSet_e (i : Nat) (q : QR) (E : EndD) (ρ : List Sl) : qSet i q E ρ = (q ρ fun r ρ' => E.nx (ρ'.set i r)) := rfl
theorem qAsg_e (q : QD) (g : QG) (E : EndD) (ρ : List Sl) : qAsg q g E ρ = (q ρ fun d ρ' => g d ρ' E.nx) := rfl
theorem qPar_e (i j : Nat) (q : QL) (E : EndD) (ρ : List Sl) : qPar i j q E ρ = (q ρ fun ds ρ' => match ds with
  | [d, e] => E.nx ((ρ'.set i (.da d)).set j (.da e))
  | _ => False) := rfl
theorem qAugI_e (f : Int → Int → Int) (i : Nat) (q : QD) (E : EndD) (ρ : List Sl) : qAugI f i q E ρ = (∃ x, ρ[i]? = some (.da (.int x)) ∧ q ρ fun d ρ' => ∃ y, d = .int y ∧ E.nx (ρ'.set i (.da (.int (f x y))))) := rfl
theorem qFor_e (qi : QL) (g : QG) (q : QS) (E : EndD) (ρ : List Sl) : qFor qi g q E ρ = (qi ρ fun ds ρ' => loopD g q E ds ρ') := rfl
theorem qWhile_e (qc : QT) (q : QS) (E : EndD) (ρ : List Sl) : qWhile qc q E ρ = (∃ W : Nat → List Sl → Prop, (∃ m, W m ρ) ∧ ∀ m ρ, W m ρ → qc ρ fun b ρ' => if b = true then q { nx := fun ρ => ∃ m', m' < m ∧ W m' ρ, rt := E.rt, bk := E.nx, ct := fun ρ => ∃ m', m' < m ∧ W m' ρ } ρ' else E.nx ρ') := rfl
theorem qYes_e (ρ : List Sl) (P : Bool → List Sl → Prop) : qYes  ρ P = (P true ρ) := rfl
theorem qLc_e (qi : QL) (g : QG) (qt : QT) (q : QD) (vs : List Nat) (ρ : List Sl) (P : Sl → List Sl → Prop) : qLc qi g qt q vs ρ P = (qi ρ fun items ρ1 => clean ρ1 vs ∧ lcD g qt q vs ρ1 (fun acc => P (.ow acc) ρ1) items []) := rfl
theorem qReord_e (idx : List Nat) (m : Nat) (q : QA) (ρ : List Sl) (P : List A → List Sl → Prop) : qReord idx m q ρ P = (q ρ fun as ρ' => as.length = m ∧ P (reord (.d .none) idx as) ρ') := rfl
theorem qPut_e (i : Nat) (qe qi : QD) (E : EndD) (ρ : List Sl) : qPut i qe qi E ρ = (qe ρ fun d ρ1 => isOw ρ1[i]? ∧ qi ρ1 fun k ρ2 => ∃ kk, k = .int kk ∧ putOw ρ2[i]? fun ds => ∃ j, ixN ds.length kk = some j ∧ E.nx (ρ2.set i (.ow (ds.set j d)))) := rfl
theorem qBits_e (q : QD) (ρ : List Sl) (P : D → List Sl → Prop) : qBits q ρ P = (q ρ fun d ρ' => ∃ i, d = .int i ∧ P (.int (Builtin.Int.intBits i)) ρ') := rfl
theorem qJd_e (i k : Nat) (ρ : List Sl) (P : Sl → List Sl → Prop) : qJd i k ρ P = (match ρ[i]? with
  | some (.jo c) => (match c.es[k]? with
    | some (.d d) => c.top = none ∧ flatD d = true ∧ P (.da d) ρ
    | _ => False)
  | _ => False) := rfl
theorem qJput_e (i k : Nat) (qe : QD) (E : EndD) (ρ : List Sl) : qJput i k qe E ρ = (qe ρ fun d ρ1 => jPart ρ1 i k fun c e => (∃ d0, e = .d d0) ∧ isT d = true ∧ E.nx (ρ1.set i (.jo (c.put k (.d d))))) := rfl
theorem qJlen_e (i k : Nat) (ρ : List Sl) (P : Sl → List Sl → Prop) : qJlen i k ρ P = (jPart ρ i k fun _ e => ∃ ds, e = .l ds ∧ P (.da (.int ds.length)) ρ) := rfl
theorem qJapp_e (i k : Nat) (qe : QD) (ρ : List Sl) (P : Sl → List Sl → Prop) : qJapp i k qe ρ P = (jPart ρ i k fun c e => ∃ ds, e = .l ds ∧ qe ρ fun d ρ1 => ρ1[i]? = some (.jo c) ∧ isT d = true ∧ ds.length < sizeLine ∧ P (.da .none) (ρ1.set i (.jo (c.put k (.l (ds ++ [d])))))) := rfl
theorem qJpop_e (i k : Nat) (ρ : List Sl) (P : Sl → List Sl → Prop) : qJpop i k ρ P = (jPart ρ i k fun c e => ∃ ds d, e = .l ds ∧ ds.getLast? = some d ∧ flatD d = true ∧ P (.da d) (ρ.set i (.jo (c.put k (.l ds.dropLast))))) := rfl
theorem qJix_e (i k : Nat) (qe : QD) (ρ : List Sl) (P : Sl → List Sl → Prop) : qJix i k qe ρ P = (jPart ρ i k fun c e => ∃ ds, e = .l ds ∧ qe ρ fun d ρ1 => ρ1[i]? = some (.jo c) ∧ ∃ z x, d = .int z ∧ atI ds z = some x ∧ flatD x = true ∧ P (.da x) ρ1) := rfl
theorem qJput2_e (i k : Nat) (qe qi : QD) (E : EndD) (ρ : List Sl) : qJput2 i k qe qi E ρ = (qe ρ fun d ρ1 => jPart ρ1 i k fun c e => ∃ ds, e = .l ds ∧ qi ρ1 fun kd ρ2 => ρ2[i]? = some (.jo c) ∧ ∃ z jj, kd = .int z ∧ ixN ds.length z = some jj ∧ isT d = true ∧ E.nx (ρ2.set i (.jo (c.put k (.l (ds.set jj d)))))) := rfl
theorem qnNil_e (ρ : List Sl) (P : List Nd → List Sl → Prop) : qnNil  ρ P = (P [] ρ) := rfl
theorem qnCons_e (qe : QR) (qr : QN) (ρ : List Sl) (P : List Nd → List Sl → Prop) : qnCons qe qr ρ P = (qe ρ fun r ρ1 => qr ρ1 fun es ρ2 => match r with
  | .da d => isT d = true ∧ P (.d d :: es) ρ2
  | .ow ds => isTs ds = true ∧ P (.l ds :: es) ρ2
  | _ => False) := rfl
theorem qnDic_e (qr : QN) (ρ : List Sl) (P : List Nd → List Sl → Prop) : qnDic qr ρ P = (qr ρ fun es ρ2 => P (.m [] [] :: es) ρ2) := rfl
theorem qmSeq_e (q : QS) (r : QM) (R : Jc → Prop) (ρ : List Sl) : qmSeq q r R ρ = (q (EndM (r R)) ρ) := rfl
theorem qmRet_e (q : QN) (R : Jc → Prop) (ρ : List Sl) : qmRet q R ρ = (q ρ fun es _ => R ⟨none, es⟩) := rfl
theorem qmDisp_e (i : Nat) (q : QN) (r : QM) (R : Jc → Prop) (ρ : List Sl) : qmDisp i q r R ρ = (q ρ fun es ρ' => r R (ρ'.set i (.jo ⟨none, es⟩))) := rfl
theorem qoRet_e (i : Nat) (R : Jc → Prop) (ρ : List Sl) : qoRet i R ρ = (∃ c, ρ[i]? = some (.jo c) ∧ R c) := rfl
theorem qMake_e (i : Nat) (good : Jc → Prop) (pp : PPm) (qa : QA) (q : QS) (E : EndD) (ρ : List Sl) : qMake i good pp qa q E ρ = (qa ρ fun as ρ' => ∃ gs, resv ρ' as = some gs ∧ pp gs fun c => good c ∧ q E ((frzs ρ' as).set i .ja)) := rfl
theorem qKget_e (t : Tb) (qe : QD) (ρ : List Sl) (P : D → List Sl → Prop) : qKget t qe ρ P = (qe ρ fun d ρ' => ∃ z dv, d = .str z ∧ t.at z = some dv ∧ P dv ρ') := rfl
theorem qKin_e (t : Tb) (g : Bool → Bool) (qe : QD) (ρ : List Sl) (P : Sl → List Sl → Prop) : qKin t g qe ρ P = (qe ρ fun d ρ' => ∃ z, d = .str z ∧ P (.da (.bool (g (t.at z).isSome))) ρ') := rfl
theorem qRev_e (q : QD) (ρ : List Sl) (P : Sl → List Sl → Prop) : qRev q ρ P = (q ρ fun d ρ' => match d with
  | .str z => z.length ≤ sizeLine ∧ P (.da (.str (revS z))) ρ'
  | .list ds => P (.ow ds.reverse) ρ'
  | _ => False) := rfl
theorem qSindex_e (qa qb : QD) (ρ : List Sl) (P : D → List Sl → Prop) : qSindex qa qb ρ P = (qa ρ fun d ρ1 => ∃ a, d = .str a ∧ qb ρ1 fun e ρ2 => ∃ b i rest, e = .str b ∧ Builtin.Str.occurrences a b 0 a.length 1 = i :: rest ∧ P (.int (i : Nat)) ρ2) := rfl
theorem qCget_e (t : Kd) (qe : QD) (ρ : List Sl) (P : Sl → List Sl → Prop) : qCget t qe ρ P = (qe ρ fun d ρ' => ∃ k dv, keyD d = some k ∧ t.at k = some dv ∧ flatD dv = true ∧ P (.da dv) ρ') := rfl
theorem qCget2_e (t : Kd) (qe : QD) (x : D) (ρ : List Sl) (P : Sl → List Sl → Prop) : qCget2 t qe x ρ P = (qe ρ fun d ρ' => ∃ k, keyD d = some k ∧ flatD ((t.at k).getD x) = true ∧ P (.da ((t.at k).getD x)) ρ') := rfl
theorem qJin_e (i k : Nat) (g : Bool → Bool) (qe : QD) (ρ : List Sl) (P : Sl → List Sl → Prop) : qJin i k g qe ρ P = (qe ρ fun d ρ1 => jPart ρ1 i k fun _ e => ∃ ks ds kk, e = .m ks ds ∧ keyD d = some kk ∧ P (.da (.bool (g (mHas ks kk)))) ρ1) := rfl
theorem qJmput_e (i k : Nat) (qe qi : QD) (E : EndD) (ρ : List Sl) : qJmput i k qe qi E ρ = (qe ρ fun d ρ1 => jPart ρ1 i k fun c e => ∃ ks ds, e = .m ks ds ∧ qi ρ1 fun kd ρ2 => ρ2[i]? = some (.jo c) ∧ ∃ kk, keyD kd = some kk ∧ isT d = true ∧ ks.length < sizeLine ∧ E.nx (ρ2.set i (.jo (c.put k (.m (mKs ks kk) (mDs ks ds kk d)))))) := rfl
theorem qJun2_e (i k : Nat) (qe : QD) (x y : Nat) (E : EndD) (ρ : List Sl) : qJun2 i k qe x y E ρ = (jPart ρ i k fun c e => ∃ ks ds, e = .m ks ds ∧ qe ρ fun d ρ1 => ρ1[i]? = some (.jo c) ∧ ∃ kk d1 d2, keyD d = some kk ∧ mAt ks ds kk = some (.tuple [d1, d2]) ∧ flatD d1 = true ∧ flatD d2 = true ∧ E.nx ((ρ1.set x (.da d1)).set y (.da d2))) := rfl
theorem qExtT_e (i : Nat) (qa : QD) (ρ : List Sl) (P : Sl → List Sl → Prop) : qExtT i qa ρ P = ((∃ ds, ρ[i]? = some (.ow ds)) ∧ qa ρ fun d ρ' => match d with
  | .tuple es => (match ρ'[i]? with
    | some (.ow ds) => ds.length + es.length ≤ sizeLine ∧ P (.da .none) (ρ'.set i (.ow (ds ++ es)))
    | _ => False)
  | _ => False) := rfl
theorem qRng3_e (q : QL) (ρ : List Sl) (P : List D → List Sl → Prop) : qRng3 q ρ P = (q ρ fun ds ρ' => ∃ i j c n, ds = [.int i, .int j, .int c] ∧ RgC i j c n ∧ P (rangeC c i n) ρ') := rfl
theorem qZip_e (q : QL) (ρ : List Sl) (P : List D → List Sl → Prop) : qZip q ρ P = (q ρ fun ds ρ' => ∃ d1 d2 as bs, ds = [d1, d2] ∧ itemsD d1 = some as ∧ itemsD d2 = some bs ∧ P (zipD as bs) ρ') := rfl
theorem qExtL_e (i : Nat) (qa : QD) (ρ : List Sl) (P : Sl → List Sl → Prop) : qExtL i qa ρ P = ((∃ ds, ρ[i]? = some (.ow ds)) ∧ qa ρ fun d ρ' => match d with
  | .list es => (match ρ'[i]? with
    | some (.ow ds) => ds.length + es.length ≤ sizeLine ∧ P (.da .none) (ρ'.set i (.ow (ds ++ es)))
    | _ => False)
  | _ => False) := rfl
theorem qDgx_e (ts : Kq) (qe : QD) (ρ : List Sl) (P : D → List Sl → Prop) : qDgx ts qe ρ P = (qPs (ts.map (·.2)) ρ fun ds ρ1 => qe ρ1 fun d ρ2 => ∃ k dv, keyD d = some k ∧ atK (ts.map (·.1)) ds k = some dv ∧ P dv ρ2) := rfl
theorem qEnum_e (q : QD) (ρ : List Sl) (P : List D → List Sl → Prop) : qEnum q ρ P = (q ρ fun d ρ' => ∃ as, itemsD d = some as ∧ P (enumD 0 as) ρ') := rfl
theorem qDropX_e (q : QR) (E : EndD) (ρ : List Sl) : qDropX q E ρ = (q ρ fun r ρ' => exOf r qNext E ρ') := rfl
theorem qSetX_e (i : Nat) (q : QR) (E : EndD) (ρ : List Sl) : qSetX i q E ρ = (q ρ fun r ρ' => exOf r (fun E ρ' => E.nx (ρ'.set i r)) E ρ') := rfl
theorem qRaise_e (x : Str) (qa : QL) (E : EndD) (ρ : List Sl) : qRaise x qa E ρ = (qa ρ fun ds ρ' => E.rt (.da (exD x ds)) ρ') := rfl
theorem qCallN_e (pp : PPr) (qa : QA) (ρ : List Sl) (P : Sl → List Sl → Prop) : qCallN pp qa ρ P = (qCall pp qa ρ fun r ρ' => noEx r (P r ρ')) := rfl
theorem qTry_e (i : Nat) (sub : Str → Bool) (qb : QS) (qh : Str → List D → QS) (E : EndD) (ρ : List Sl) : qTry i sub qb qh E ρ = (qb { E with rt := exTry i sub qh E } ρ) := rfl
theorem qXf_e (i : Nat) (d : D) (ρ : List Sl) (P : D → List Sl → Prop) : qXf i d ρ P = (ρ[i]? = some .ja ∧ P d ρ) := rfl
theorem qIsX_e (i : Nat) (b : Bool) (ρ : List Sl) (P : D → List Sl → Prop) : qIsX i b ρ P = (ρ[i]? = some .ja ∧ P (.bool b) ρ) := rfl
theorem qPairX_e (qa : QD) (qb : QR) (ρ : List Sl) (P : Sl → List Sl → Prop) : qPairX qa qb ρ P = (qa ρ fun d ρ1 => qb ρ1 (pairX d P)) := rfl
theorem qChain_e (f g : DOp) (qa qb qc : QD) (ρ : List Sl) (P : Sl → List Sl → Prop) : qChain f g qa qb qc ρ P = (qa ρ fun d ρ1 => qb ρ1 fun e ρ2 => f d e fun s => isB s fun k => if k = true then qc ρ2 fun h ρ3 => g e h fun s => P s ρ3 else P (.da (.bool false)) ρ2) := rfl
theorem qUpper_e (qa : QD) (ρ : List Sl) (P : D → List Sl → Prop) : qUpper qa ρ P = (qa ρ fun d ρ' => ∃ x, d = .str x ∧ x.length ≤ 5592405 ∧ P (.str (Txt.upper x)) ρ') := rfl
theorem qPopAt_e (i : Nat) (qa : QD) (ρ : List Sl) (P : Sl → List Sl → Prop) : qPopAt i qa ρ P = ((∃ ds, ρ[i]? = some (.ow ds)) ∧ qa ρ fun d ρ' => match ρ'[i]? with
  | some (.ow ds) => ∃ (k : Nat) (x : D), d = .int k ∧ k < 2 ^ 62 ∧ ds[k]? = some x ∧ P (.da x) (ρ'.set i (.ow (ds.eraseIdx k)))
  | _ => False) := rfl
theorem qDead_e (x0 : List Sl) (x1 : D → List Sl → Prop) : qDead  x0 x1 = (False) := rfl
theorem qDeadS_e (x0 : EndD) (x1 : List Sl) : qDeadS  x0 x1 = (False) := rfl
theorem qJsee_e (good : Jc → Prop) (i k : Nat) (ρ : List Sl) (P : Sl → List Sl → Prop) : qJsee good i k ρ P = (ρ[i]? = some .ja ∧ ∀ c, good c → ∃ d, c.top = none ∧ c.es[k]? = some (.d d) ∧ flatD d = true ∧ P (.da d) ρ) := rfl
theorem qDx_e (ts : Kq) (ρ : List Sl) (P : Sl → List Sl → Prop) : qDx ts ρ P = (qPs (ts.map (·.2)) ρ fun ds ρ1 => P (.od ((ts.map (·.1)).zip ds)) ρ1) := rfl
theorem qOdGet_e (i : Nat) (qe : QD) (ρ : List Sl) (P : D → List Sl → Prop) : qOdGet i qe ρ P = (isOd ρ[i]? ∧ qe ρ fun d ρ1 => seeOd ρ1[i]? fun ds => ∃ k dv, keyD d = some k ∧ getK ds k = some dv ∧ P dv ρ1) := rfl
theorem qOdIn_e (i : Nat) (f : Bool → Bool) (qe : QD) (ρ : List Sl) (P : Sl → List Sl → Prop) : qOdIn i f qe ρ P = (qe ρ fun d ρ1 => seeOd ρ1[i]? fun ds => ∃ k, keyD d = some k ∧ P (.da (.bool (f (getK ds k).isSome))) ρ1) := rfl
theorem qD0_e (ρ : List Sl) (P : Sl → List Sl → Prop) : qD0  ρ P = (P (.od []) ρ) := rfl
theorem qOdPut_e (i : Nat) (qv qe : QD) (E : EndD) (ρ : List Sl) : qOdPut i qv qe E ρ = (qv ρ fun v ρ1 => isOd ρ1[i]? ∧ qe ρ1 fun d ρ2 => seeOd ρ2[i]? fun ds => ∃ k, keyD d = some k ∧ (ds.map (·.1)).Nodup ∧ ds.length < sizeLine ∧ soleOd ρ2 i = true ∧ E.nx (ρ2.set i (.od (setK ds k v)))) := rfl

theorem atI_0 {α : Type} (x : α) (r : List α) : atI (x :: r) 0 = some x := by
  unfold atI ixN
  rw [if_pos (Int.le_refl 0), if_pos (by rw [List.length_cons]; omega)]
  rfl
theorem atI_1 {α : Type} (x y : α) (r : List α) : atI (x :: y :: r) 1 = some y := by
  unfold atI ixN
  rw [if_pos (by omega), if_pos (by rw [List.length_cons, List.length_cons]; omega)]
  rfl
theorem atI_2 {α : Type} (x y z : α) (r : List α) : atI (x :: y :: z :: r) 2 = some z := by
  unfold atI ixN
  rw [if_pos (by omega), if_pos (by rw [List.length_cons, List.length_cons, List.length_cons]; omega)]
  rfl
theorem atI_of {α : Type} {xs : List α} {i : Int} (h0 : 0 ≤ i) (h : i < xs.length) : ∃ x, atI xs i = some x ∧ x ∈ xs ∧ xs[i.toNat]? = some x := by
  unfold atI ixN
  rw [if_pos h0, if_pos h]
  have l : i.toNat < xs.length := by omega
  exact ⟨xs[i.toNat], List.getElem?_eq_getElem l, List.getElem_mem l, List.getElem?_eq_getElem l⟩
theorem ixN_lit {n : Nat} {i : Int} (h0 : 0 ≤ i) (h : i < n) : ixN n i = some i.toNat := by
  unfold ixN
  rw [if_pos h0, if_pos h]
theorem while_of {qc : QT} {q : QS} {E : EndD} {ρ : List Sl} (W : Nat → List Sl → Prop) (m : Nat) (h0 : W m ρ)
    (hs : ∀ m ρ, W m ρ → qc ρ fun b ρ' => if b = true then q { nx := fun ρ => ∃ m', m' < m ∧ W m' ρ, rt := E.rt, bk := E.nx, ct := fun ρ => ∃ m', m' < m ∧ W m' ρ } ρ' else E.nx ρ') : qWhile qc q E ρ := ⟨W, ⟨m, h0⟩, hs⟩
theorem loop_of {g : QG} {q : QS} {E : EndD} (I : List D → List Sl → Prop) (h0 : ∀ ρ, I [] ρ → E.nx ρ)
    (hs : ∀ d ds ρ, I (d :: ds) ρ → (∀ ρ, I ds ρ → loopD g q E ds ρ) → g d ρ fun ρ' => q { nx := loopD g q E ds, rt := E.rt, bk := E.nx, ct := loopD g q E ds } ρ') : ∀ ds ρ, I ds ρ → loopD g q E ds ρ
  | [], ρ, h => h0 ρ h
  | d :: ds, ρ, h => hs d ds ρ h (loop_of I h0 hs ds)
theorem range_of {g : QG} {q : QS} {E : EndD} (I : Int → Nat → List Sl → Prop) (h0 : ∀ lo ρ, I lo 0 ρ → E.nx ρ)
    (hs : ∀ lo n ρ, I lo (n + 1) ρ → (∀ ρ, I (lo + 1) n ρ → loopD g q E (rangeD (lo + 1) n) ρ) → g (.int lo) ρ fun ρ' => q { nx := loopD g q E (rangeD (lo + 1) n), rt := E.rt, bk := E.nx, ct := loopD g q E (rangeD (lo + 1) n) } ρ') : ∀ n lo ρ, I lo n ρ → loopD g q E (rangeD lo n) ρ
  | 0, lo, ρ, h => h0 lo ρ h
  | n + 1, lo, ρ, h => hs lo n ρ h (range_of I h0 hs n (lo + 1))
theorem lc_of {g : QG} {qt : QT} {q : QD} {vs : List Nat} {ρ : List Sl} {F : List D → Prop} (I : List D → List D → Prop) (h0 : ∀ acc, I [] acc → F acc)
    (hs : ∀ d ds acc, I (d :: ds) acc → (∀ acc, I ds acc → lcD g qt q vs ρ F ds acc) → g d (wipeD ρ vs) fun ρ1 => qt ρ1 fun b ρ2 => if b = true then q ρ2 fun x ρ3 => wipeD ρ3 vs = wipeD ρ vs ∧ acc.length < sizeLine ∧ lcD g qt q vs ρ F ds (acc ++ [x]) else wipeD ρ2 vs = wipeD ρ vs ∧ lcD g qt q vs ρ F ds acc) :
    ∀ ds acc, I ds acc → lcD g qt q vs ρ F ds acc
  | [], acc, h => h0 acc h
  | d :: ds, acc, h => hs d ds acc h (lc_of I h0 hs ds)
theorem abs_nat (p : Int) : (if p < 0 then -p else p) = (p.natAbs : Int) := by split <;> omega
theorem kb_bool_bool : kitB "bool" "bool" = some true := by rfl
theorem kb_bool_int : kitB "bool" "int" = some true := by rfl
theorem kb_bool_str : kitB "bool" "str" = some false := by rfl
theorem kb_bool_tuple : kitB "bool" "tuple" = some false := by rfl
theorem kb_bool_list : kitB "bool" "list" = some false := by rfl
theorem kb_int_bool : kitB "int" "bool" = some false := by rfl
theorem kb_int_int : kitB "int" "int" = some true := by rfl
theorem kb_int_str : kitB "int" "str" = some false := by rfl
theorem kb_int_tuple : kitB "int" "tuple" = some false := by rfl
theorem kb_int_list : kitB "int" "list" = some false := by rfl
theorem kb_str_bool : kitB "str" "bool" = some false := by rfl
theorem kb_str_int : kitB "str" "int" = some false := by rfl
theorem kb_str_str : kitB "str" "str" = some true := by rfl
theorem kb_str_tuple : kitB "str" "tuple" = some false := by rfl
theorem kb_str_list : kitB "str" "list" = some false := by rfl
theorem kb_tuple_bool : kitB "tuple" "bool" = some false := by rfl
theorem kb_tuple_int : kitB "tuple" "int" = some false := by rfl
theorem kb_tuple_str : kitB "tuple" "str" = some false := by rfl
theorem kb_tuple_tuple : kitB "tuple" "tuple" = some true := by rfl
theorem kb_tuple_list : kitB "tuple" "list" = some false := by rfl
theorem kb_list_bool : kitB "list" "bool" = some false := by rfl
theorem kb_list_int : kitB "list" "int" = some false := by rfl
theorem kb_list_str : kitB "list" "str" = some false := by rfl
theorem kb_list_tuple : kitB "list" "tuple" = some false := by rfl
theorem kb_list_list : kitB "list" "list" = some true := by rfl
theorem kb_NoneType_bool : kitB "NoneType" "bool" = some false := by rfl
theorem kb_NoneType_int : kitB "NoneType" "int" = some false := by rfl
theorem kb_NoneType_str : kitB "NoneType" "str" = some false := by rfl
theorem kb_NoneType_tuple : kitB "NoneType" "tuple" = some false := by rfl
theorem kb_NoneType_list : kitB "NoneType" "list" = some false := by rfl
theorem loopD_nil (g : QG) (q : QS) (E : EndD) (ρ : List Sl) : loopD g q E [] ρ = E.nx ρ := rfl
theorem loopD_cons (g : QG) (q : QS) (E : EndD) (d : D) (ds : List D) (ρ : List Sl) : loopD g q E (d :: ds) ρ = g d ρ fun ρ' => q { nx := loopD g q E ds, rt := E.rt, bk := E.nx, ct := loopD g q E ds } ρ' := rfl
theorem lcD_nil (g : QG) (qt : QT) (q : QD) (vs : List Nat) (ρ : List Sl) (F : List D → Prop) (acc : List D) : lcD g qt q vs ρ F [] acc = F acc := rfl
theorem lcD_cons (g : QG) (qt : QT) (q : QD) (vs : List Nat) (ρ : List Sl) (F : List D → Prop) (d : D) (ds acc : List D) : lcD g qt q vs ρ F (d :: ds) acc = g d (wipeD ρ vs) fun ρ1 => qt ρ1 fun b ρ2 => if b = true then q ρ2 fun x ρ3 => wipeD ρ3 vs = wipeD ρ vs ∧ acc.length < sizeLine ∧ lcD g qt q vs ρ F ds (acc ++ [x]) else wipeD ρ2 vs = wipeD ρ vs ∧ lcD g qt q vs ρ F ds acc := rfl
theorem ixl_1_0 : ixN 1 0 = some 0 := by rfl
theorem ixl_2_0 : ixN 2 0 = some 0 := by rfl
theorem ixl_2_1 : ixN 2 1 = some 1 := by rfl
theorem ixl_3_0 : ixN 3 0 = some 0 := by rfl
theorem ixl_3_1 : ixN 3 1 = some 1 := by rfl
theorem ixl_3_2 : ixN 3 2 = some 2 := by rfl
theorem ixl_4_0 : ixN 4 0 = some 0 := by rfl
theorem ixl_4_1 : ixN 4 1 = some 1 := by rfl
theorem ixl_4_2 : ixN 4 2 = some 2 := by rfl
theorem ixl_4_3 : ixN 4 3 = some 3 := by rfl
theorem ixl_5_0 : ixN 5 0 = some 0 := by rfl
theorem ixl_5_1 : ixN 5 1 = some 1 := by rfl
theorem ixl_5_2 : ixN 5 2 = some 2 := by rfl
theorem ixl_5_3 : ixN 5 3 = some 3 := by rfl
theorem ixl_5_4 : ixN 5 4 = some 4 := by rfl
theorem ixl_6_0 : ixN 6 0 = some 0 := by rfl
theorem ixl_6_1 : ixN 6 1 = some 1 := by rfl
theorem ixl_6_2 : ixN 6 2 = some 2 := by rfl
theorem ixl_6_3 : ixN 6 3 = some 3 := by rfl
theorem ixl_6_4 : ixN 6 4 = some 4 := by rfl
theorem ixl_6_5 : ixN 6 5 = some 5 := by rfl
theorem flatD_ex (x : Str) (ds : List D) : flatD (exD x ds) = false := rfl
theorem exTry_ex (i : Nat) (sub : Str → Bool) (qh : Str → List D → QS) (E : EndD) (x : Str) (ds : List D) (ρ : List Sl) : exTry i sub qh E (.da (exD x ds)) ρ = (sub x = true ∧ ds.all flatD = true ∧ noJ ρ ∧ i < ρ.length ∧ qh x ds (EndX i E) (ρ.set i .ja)) := by
  refine propext ⟨fun ⟨y, es, h, h2⟩ => ?_, fun h => ⟨x, ds, rfl, h⟩⟩
  cases h
  exact h2
theorem exTry_int (i : Nat) (sub : Str → Bool) (qh : Str → List D → QS) (E : EndD) (k : Int) (ρ : List Sl) : exTry i sub qh E (.da (.int k)) ρ = E.rt (.da (.int k)) ρ := rfl
theorem exOf_int (f : QS) (E : EndD) (k : Int) (ρ : List Sl) : exOf (.da (.int k)) f E ρ = f E ρ := rfl
theorem noEx_int (k : Int) (p : Prop) : noEx (.da (.int k)) p = p := rfl
theorem pairX_int (d : D) (P : Sl → List Sl → Prop) (k : Int) (ρ : List Sl) : pairX d P (.da (.int k)) ρ = P (.da (.tuple [d, .int k])) ρ := rfl
theorem exTry_bool (i : Nat) (sub : Str → Bool) (qh : Str → List D → QS) (E : EndD) (k : Bool) (ρ : List Sl) : exTry i sub qh E (.da (.bool k)) ρ = E.rt (.da (.bool k)) ρ := rfl
theorem exOf_bool (f : QS) (E : EndD) (k : Bool) (ρ : List Sl) : exOf (.da (.bool k)) f E ρ = f E ρ := rfl
theorem noEx_bool (k : Bool) (p : Prop) : noEx (.da (.bool k)) p = p := rfl
theorem pairX_bool (d : D) (P : Sl → List Sl → Prop) (k : Bool) (ρ : List Sl) : pairX d P (.da (.bool k)) ρ = P (.da (.tuple [d, .bool k])) ρ := rfl
theorem exTry_str (i : Nat) (sub : Str → Bool) (qh : Str → List D → QS) (E : EndD) (k : Str) (ρ : List Sl) : exTry i sub qh E (.da (.str k)) ρ = E.rt (.da (.str k)) ρ := rfl
theorem exOf_str (f : QS) (E : EndD) (k : Str) (ρ : List Sl) : exOf (.da (.str k)) f E ρ = f E ρ := rfl
theorem noEx_str (k : Str) (p : Prop) : noEx (.da (.str k)) p = p := rfl
theorem pairX_str (d : D) (P : Sl → List Sl → Prop) (k : Str) (ρ : List Sl) : pairX d P (.da (.str k)) ρ = P (.da (.tuple [d, .str k])) ρ := rfl
theorem exTry_tup (i : Nat) (sub : Str → Bool) (qh : Str → List D → QS) (E : EndD) (k : List D) (ρ : List Sl) : exTry i sub qh E (.da (.tuple k)) ρ = E.rt (.da (.tuple k)) ρ := rfl
theorem exOf_tup (f : QS) (E : EndD) (k : List D) (ρ : List Sl) : exOf (.da (.tuple k)) f E ρ = f E ρ := rfl
theorem noEx_tup (k : List D) (p : Prop) : noEx (.da (.tuple k)) p = p := rfl
theorem pairX_tup (d : D) (P : Sl → List Sl → Prop) (k : List D) (ρ : List Sl) : pairX d P (.da (.tuple k)) ρ = P (.da (.tuple [d, .tuple k])) ρ := rfl
theorem exTry_lst (i : Nat) (sub : Str → Bool) (qh : Str → List D → QS) (E : EndD) (k : List D) (ρ : List Sl) : exTry i sub qh E (.da (.list k)) ρ = E.rt (.da (.list k)) ρ := rfl
theorem exOf_lst (f : QS) (E : EndD) (k : List D) (ρ : List Sl) : exOf (.da (.list k)) f E ρ = f E ρ := rfl
theorem noEx_lst (k : List D) (p : Prop) : noEx (.da (.list k)) p = p := rfl
theorem pairX_lst (d : D) (P : Sl → List Sl → Prop) (k : List D) (ρ : List Sl) : pairX d P (.da (.list k)) ρ = P (.da (.tuple [d, .list k])) ρ := rfl
theorem exTry_non (i : Nat) (sub : Str → Bool) (qh : Str → List D → QS) (E : EndD) (ρ : List Sl) : exTry i sub qh E (.da .none) ρ = E.rt (.da .none) ρ := rfl
theorem exOf_non (f : QS) (E : EndD) (ρ : List Sl) : exOf (.da .none) f E ρ = f E ρ := rfl
theorem exOf_ow (f : QS) (E : EndD) (ds : List D) (ρ : List Sl) : exOf (.ow ds) f E ρ = f E ρ := rfl
theorem exOf_ex (f : QS) (E : EndD) (x : Str) (ds : List D) (ρ : List Sl) : exOf (.da (exD x ds)) f E ρ = E.rt (.da (exD x ds)) ρ := rfl
theorem noEx_non (p : Prop) : noEx (.da .none) p = p := rfl
theorem noEx_ow (ds : List D) (p : Prop) : noEx (.ow ds) p = p := rfl
theorem noEx_ex (x : Str) (ds : List D) (p : Prop) : noEx (.da (exD x ds)) p = False := rfl
theorem pairX_non (d : D) (P : Sl → List Sl → Prop) (ρ : List Sl) : pairX d P (.da .none) ρ = P (.da (.tuple [d, .none])) ρ := rfl
theorem pairX_ex (d : D) (P : Sl → List Sl → Prop) (x : Str) (ds : List D) (ρ : List Sl) : pairX d P (.da (exD x ds)) ρ = P (.da (exD x ds)) ρ := rfl
theorem noJ_nil : noJ [] = True := propext ⟨fun _ => trivial, fun _ s h => by cases h⟩
theorem noJ_c {s : Sl} {ρ : List Sl} (h : match s with | .ja => False | .jo _ => False | _ => True) : noJ (s :: ρ) = noJ ρ := propext ⟨fun k t m => k t (List.mem_cons_of_mem _ m), fun k t m => by
  rcases List.mem_cons.mp m with rfl | m
  · exact h
  · exact k t m⟩
theorem noJ_un (ρ : List Sl) : noJ (.un :: ρ) = noJ ρ := noJ_c trivial
theorem noJ_da (d : D) (ρ : List Sl) : noJ (.da d :: ρ) = noJ ρ := noJ_c trivial
theorem noJ_ow (ds : List D) (ρ : List Sl) : noJ (.ow ds :: ρ) = noJ ρ := noJ_c trivial
theorem noJ_od (ds : List (L2.Key × D)) (ρ : List Sl) : noJ (.od ds :: ρ) = noJ ρ := noJ_c trivial
theorem sEx1_e (f : D → QS) (x : Str) (a : D) (E : EndD) (ρ : List Sl) : sEx1 f x [a] E ρ = f a E ρ := rfl
theorem sEx2_e (f : D → D → QS) (x : Str) (a b : D) (E : EndD) (ρ : List Sl) : sEx2 f x [a, b] E ρ = f a b E ρ := rfl
theorem sEx3_e (f : D → D → D → QS) (x : Str) (a b c : D) (E : EndD) (ρ : List Sl) : sEx3 f x [a, b, c] E ρ = f a b c E ρ := rfl
end Zd

set_option Elab.async false
set_option linter.all false
set_option maxRecDepth 100000
set_option maxHeartbeats 4000000
namespace Zd
open PySem PySem.Spec PyProof.Rows L2
inductive Lt where
  | s | w | v
deriving DecidableEq
def Lt.code : Lt → Nat
  | .s => 115
  | .w => 119
  | .v => 118
def tx (u : List Lt) : Str := ⟨(u.map Lt.code).toArray⟩
theorem mulL' {a b : Int} (h1 : -(2 ^ 64) < a) (h2 : a < 2 ^ 64) : CMulA a b := .inl (.inl ⟨h1, h2⟩)
theorem mulR' {a b : Int} (h1 : -(2 ^ 64) < b) (h2 : b < 2 ^ 64) : CMulA a b := .inl (.inr ⟨h1, h2⟩)
theorem divS {a b : Int} (h0 : 0 < b) (hb : b < 2 ^ 64) : CDivW a b := wide_div (b := 64) h0 (by omega) (by omega) (by omega)
theorem cutD_in {ds : List D} {a b : Option Int} : (Zd.cutD ds a b).length ≤ ds.length ∧ ∀ d ∈ Zd.cutD ds a b, d ∈ ds := by
  unfold Zd.cutD
  refine ⟨?_, fun d h => List.mem_of_mem_drop (List.mem_of_mem_take h)⟩
  rw [List.length_take, List.length_drop]
  omega
theorem tx_items (u : List Lt) : List.map sgn (tx u).cps.toList = u.map fun l => PyData.str (tx [l]) := by
  show List.map sgn ((u.map Lt.code).toArray).toList = _
  rw [List.toList_toArray, List.map_map]
  rfl
theorem tx_strs : ∀ u : List Lt, strsD (u.map fun l => PyData.str (tx [l])) = some (u.map fun l => tx [l])
  | [] => rfl
  | l :: u => by
    have := tx_strs u
    simp only [List.map_cons]
    unfold strsD
    rw [this]
    rfl
theorem tx_sjoin : ∀ u : List Lt, Str.join (Str.ofString "") (u.map fun l => tx [l]) = tx u
  | [] => rfl
  | [l] => rfl
  | l :: k :: u => by
    have ih := tx_sjoin (k :: u)
    show tx [l] ++ Str.ofString "" ++ Str.join (Str.ofString "") ((k :: u).map fun l => tx [l]) = _
    rw [ih]
    show (⟨(#[l.code] ++ #[]) ++ ((k :: u).map Lt.code).toArray⟩ : Str) = ⟨((l :: k :: u).map Lt.code).toArray⟩
    congr 1
    apply Array.ext'
    simp
theorem tx_join (u : List Lt) : Txt.join (Str.ofString "") (u.map fun l => tx [l]) = tx u := by
  exact (PySem.StrLaws.glued_eq_join _ _).trans (tx_sjoin u)
theorem tx_len (u : List Lt) : (tx u).length = u.length := by
  show ((u.map Lt.code).toArray).size = _
  rw [List.size_toArray, List.length_map]
theorem tx_sum (u : List Lt) : ((u.map fun l => tx [l]).map (·.length)).sum = u.length := by
  induction u with
  | nil => rfl
  | cons l u ih =>
    rw [List.map_cons, List.map_cons, List.sum_cons, ih, List.length_cons]
    show 1 + u.length = _
    omega
theorem rangeD_int : ∀ (n : Nat) (lo : Int), ∀ d ∈ rangeD lo n, ∃ i, d = PyData.int i
  | 0, _, d, h => by cases h
  | n + 1, lo, d, h => by
    rcases List.mem_cons.mp h with rfl | h
    · exact ⟨lo, rfl⟩
    · exact rangeD_int n _ d h
theorem svw_at {r : Int} (h0 : 0 ≤ r) (h1 : r < 3) : ∃ c l, atI (Str.ofString "svw").cps.toList r = some c ∧ (⟨#[c]⟩ : Str) = tx [l] := by
  have : r = 0 ∨ r = 1 ∨ r = 2 := by omega
  rcases this with rfl | rfl | rfl
  · exact ⟨115, .s, by rfl, rfl⟩
  · exact ⟨118, .v, by rfl, rfl⟩
  · exact ⟨119, .w, by rfl, rfl⟩
theorem vw_at {r : Int} (h0 : 0 ≤ r) (h1 : r < 2) : ∃ c l, atI (Str.ofString "vw").cps.toList r = some c ∧ (⟨#[c]⟩ : Str) = tx [l] := by
  have : r = 0 ∨ r = 1 := by omega
  rcases this with rfl | rfl
  · exact ⟨118, .v, by rfl, rfl⟩
  · exact ⟨119, .w, by rfl, rfl⟩
theorem tx_rev (u : List Lt) : revS (tx u) = tx u.reverse := by
  unfold revS tx
  rw [List.toList_toArray, List.map_reverse]
theorem tx_rep (u : List Lt) (k : Nat) : repS (tx u) k = tx (List.replicate k u).flatten := by
  unfold repS tx
  rw [List.toList_toArray, List.map_flatten, List.map_replicate]
theorem tx_empty (r : List Lt) : (tx r.reverse = Str.ofString "") ↔ r = [] := by
  refine ⟨fun h => ?_, fun h => by rw [h]; rfl⟩
  have := congrArg Str.length h
  rw [tx_len, List.length_reverse] at this
  exact List.eq_nil_of_length_eq_zero this
theorem atI_last {α : Type} (xs : List α) (x : α) : atI (xs ++ [x]) (-1) = some x := by
  unfold atI ixN
  rw [if_neg (by decide), if_pos (by rw [List.length_append, List.length_singleton]; omega)]
  show (xs ++ [x])[(-1 + ((xs ++ [x]).length : Int)).toNat]? = some x
  rw [List.length_append, List.length_singleton, show (-1 + ((xs.length + 1 : Nat) : Int)).toNat = xs.length by omega]
  simp
theorem mod_half {a b : Nat} (h : 0 < a % b) : 2 * (b % (a % b)) < b ∨ b = 0 := by
  rcases Nat.eq_zero_or_pos b with z | z
  · exact .inr z
  · left
    have h1 := Nat.mod_lt a z
    have h2 := Nat.mod_lt b h
    have h3 := Nat.div_add_mod b (a % b)
    have h4 : 1 ≤ b / (a % b) := (Nat.le_div_iff_mul_le h).mpr (by omega)
    have h5 : a % b * 1 ≤ a % b * (b / (a % b)) := Nat.mul_le_mul_left _ h4
    omega
def Lap (n a b : Nat) : Prop := (∃ k, 2 * k ≤ n ∧ b < 2 ^ k) ∨ ∃ k, 2 * k + 1 ≤ n ∧ (b = 0 ∨ a % b < 2 ^ k)
theorem lap_next {n a b : Nat} (h : Lap (n + 1) a b) (hb : b ≠ 0) : Lap n b (a % b) := by
  rcases h with ⟨k, h1, h2⟩ | ⟨k, h1, h2⟩
  · cases k with
    | zero => simp at h2; exact absurd h2 hb
    | succ k =>
      refine .inr ⟨k, by omega, ?_⟩
      rcases Nat.eq_zero_or_pos (a % b) with z | z
      · exact .inl z
      · right
        rcases mod_half z with y | y
        · rw [Nat.pow_succ] at h2
          omega
        · exact absurd y hb
  · rcases h2 with z | z
    · exact absurd z hb
    · exact .inl ⟨k, by omega, z⟩
theorem lap_zero {a b : Nat} (h : Lap 0 a b) : b = 0 := by
  rcases h with ⟨k, h1, h2⟩ | ⟨k, h1, _⟩
  · have : k = 0 := by omega
    subst this
    simpa using h2
  · omega
theorem tx_take (u : List Lt) (at_ : Int) (h0 : 0 ≤ at_) (h1 : at_ ≤ u.length) : cutS (tx u) none (some at_) = tx (u.take at_.toNat) := by
  unfold cutS
  have e : ((at_.toNat : Nat) : Int) = at_ := by omega
  generalize at_.toNat = k at *
  subst e
  rw [tx_len, HT.sIx_nat, HT.sIx_none, List.drop_zero, Nat.sub_zero, Nat.min_eq_left (by omega)]
  unfold tx
  rw [List.toList_toArray, List.map_take]
theorem tx_drop (u : List Lt) (at_ : Int) (h0 : 0 ≤ at_) (h1 : at_ ≤ u.length) : cutS (tx u) (some at_) none = tx (u.drop at_.toNat) := by
  unfold cutS
  have e : ((at_.toNat : Nat) : Int) = at_ := by omega
  generalize at_.toNat = k at *
  subst e
  rw [tx_len, HT.sIx_nat, HT.sIx_none, Nat.min_eq_left (by omega), List.take_of_length_le (by rw [List.length_drop, Array.length_toList]; show (tx u).length - _ ≤ _; rw [tx_len]; omega)]
  unfold tx
  rw [List.toList_toArray, List.map_drop]
theorem tx_cat (u v : List Lt) : tx u ++ tx v = tx (u ++ v) := by
  show (⟨(u.map Lt.code).toArray ++ (v.map Lt.code).toArray⟩ : Str) = ⟨((u ++ v).map Lt.code).toArray⟩
  congr 1
  apply Array.ext'
  simp
theorem atI_tx {u : List Lt} {at_ : Int} (h0 : 0 ≤ at_) (h1 : at_ < u.length) : ∃ l : Lt, atI (tx u).cps.toList at_ = some l.code := by
  unfold atI ixN tx
  rw [List.toList_toArray, List.length_map, if_pos h0, if_pos h1]
  have : at_.toNat < u.length := by omega
  exact ⟨u[at_.toNat], by show (u.map Lt.code)[at_.toNat]? = _; rw [List.getElem?_map, List.getElem?_eq_getElem this]; rfl⟩
theorem szT {u : List Lt} {n : Nat} (h : u.length ≤ n) (hn : n ≤ 100000) : (tx u).length ≤ sizeLine := by
  rw [tx_len]
  exact Nat.le_trans (Nat.le_trans h hn) (by decide)
theorem rep_len (m : List Lt) (k : Nat) : ((List.replicate k m).flatten).length = k * m.length := by
  rw [List.length_flatten, List.map_replicate, List.sum_replicate_nat]
abbrev Ends0 (R : Sl → Prop) : EndD := ⟨fun _ => R (.da .none), fun r _ => R r, fun _ => False, fun _ => False⟩
def inv : Lt → Lt
  | .s => .s
  | .w => .v
  | .v => .w
theorem code_inj {a b : Lt} (h : a.code = b.code) : a = b := by
  cases a <;> cases b <;> first | rfl | (cases h)
theorem codes_inj : ∀ {a b : List Lt}, a.map Lt.code = b.map Lt.code → a = b
  | [], [], _ => rfl
  | [], _ :: _, h => by cases h
  | _ :: _, [], h => by cases h
  | x :: a, y :: b, h => by
    rw [List.map_cons, List.map_cons, List.cons.injEq] at h
    rw [code_inj h.1, codes_inj h.2]
theorem tx_inj {a b : List Lt} (h : tx a = tx b) : a = b := by
  unfold tx at h
  injection h with h
  exact codes_inj (by simpa using h)
theorem tx_eq (a b : List Lt) : (tx a = tx b) = (a = b) := propext ⟨tx_inj, fun h => by rw [h]⟩
theorem tx_get (u : List Lt) (i : Nat) : (tx u).cps.toList[i]? = u[i]?.map Lt.code := by
  unfold tx
  rw [List.toList_toArray, List.getElem?_map]
theorem atI_txn {u : List Lt} {i : Nat} {l : Lt} (h : u[i]? = some l) : atI (tx u).cps.toList (i : Nat) = some l.code := by
  have hl := (List.getElem?_eq_some_iff.mp h).1
  unfold atI ixN
  rw [if_pos (by omega), if_pos (by unfold tx; rw [List.toList_toArray, List.length_map]; omega)]
  show (tx u).cps.toList[((i : Nat) : Int).toNat]? = _
  rw [Int.toNat_natCast, tx_get, h]
  rfl
theorem one_tx (l : Lt) : (⟨#[l.code]⟩ : Str) = tx [l] := rfl
end Zd

set_option Elab.async false
set_option linter.all false
set_option maxRecDepth 100000
set_option maxHeartbeats 4000000
namespace Zd
open PySem PySem.Spec PyProof.Rows L2 PySem.W
/-! ### books of calls: names and moves; sorting by names -/
abbrev Cl := Str × List Str
def cD (c : Cl) : D := .tuple [.str c.1, .tuple (c.2.map .str)]
def bD (b : List Cl) : D := .tuple (b.map cD)
def nms (b : List Cl) : List Str := b.map (·.1)
def leS (a b : Str) : Bool := decide (a.cps.toList ≤ b.cps.toList)
def srtN (ns : List Str) : List Str := ns.mergeSort leS
def srt (b : List Cl) : List Cl := b.mergeSort (dataLe false cD)
theorem str_ext {a b : Str} (h : a.cps.toList = b.cps.toList) : a = b := by
  cases a; cases b
  congr 1
  exact Array.toList_inj.mp h
theorem leS_anti {a b : Str} (h : leS a b = true) (h' : leS b a = true) : a = b := by
  unfold leS at h h'
  exact str_ext (List.le_antisymm (of_decide_eq_true h) (of_decide_eq_true h'))
theorem leS_total (a b : Str) : (leS a b || leS b a) = true := by
  unfold leS
  rcases List.le_total a.cps.toList b.cps.toList with h | h
  · rw [decide_eq_true h]; rfl
  · rw [decide_eq_true h, Bool.or_true]
theorem leS_trans (a b c : Str) (h : leS a b = true) (h' : leS b c = true) : leS a c = true := by
  unfold leS at *
  exact decide_eq_true (List.le_trans (of_decide_eq_true h) (of_decide_eq_true h'))
theorem srtN_perm (ns : List Str) : (srtN ns).Perm ns := List.mergeSort_perm _ _
theorem srtN_pair (ns : List Str) : (srtN ns).Pairwise fun a b => leS a b = true := List.pairwise_mergeSort leS_trans leS_total ns
theorem srtN_unique {ns ms : List Str} (hp : ms.Perm ns) (h : ms.Pairwise fun a b => leS a b = true) : ms = srtN ns :=
  List.Perm.eq_of_pairwise (fun a b _ _ h1 h2 => leS_anti h1 h2) h (srtN_pair ns) (hp.trans (srtN_perm ns).symm)
theorem srtD_strs (ns : List Str) : srtD (ns.map .str) = (srtN ns).map .str := by
  have e : dataLe false (fun s : Str => PyData.str s) = leS := dataLe_str (fun s : Str => s)
  unfold srtD srtN
  rw [← e]
  exact (sort_maps (f := PyData.str) (r := dataLe false fun s : Str => PyData.str s) (s := dataLe false id) fun a _ b _ => rfl).symm
theorem srtD_calls (b : List Cl) : srtD (b.map cD) = (srt b).map cD := by
  unfold srtD srt
  exact (sort_maps (f := cD) (r := dataLe false cD) (s := dataLe false id) fun a _ b _ => rfl).symm
theorem srt_perm (b : List Cl) : (srt b).Perm b := List.mergeSort_perm _ _
theorem alike_strs : ∀ a b : List Str, alikeAll (a.map .str) (b.map .str) = true
  | [], _ => rfl
  | _ :: _, [] => rfl
  | x :: a, y :: b => by
    show (alike (.str x) (.str y) && alikeAll (a.map .str) (b.map .str)) = true
    rw [alike_strs a b]
    rfl
theorem alike_call (c d : Cl) : alike (cD c) (cD d) = true := by
  show (alike (.str c.1) (.str d.1) && (alike (.tuple (c.2.map .str)) (.tuple (d.2.map .str)) && true)) = true
  rw [show alike (.tuple (c.2.map .str)) (.tuple (d.2.map .str)) = alikeAll (c.2.map .str) (d.2.map .str) from rfl, alike_strs]
  rfl
theorem depth_strs : ∀ a : List Str, PyData.depthAll (a.map .str) = 0
  | [] => rfl
  | x :: a => by
    show max 0 (PyData.depthAll (a.map .str)) = 0
    rw [depth_strs a]
    rfl
theorem srtOk_strs {ns : List Str} (h : ns.length ≤ 100000) : SrtOk (ns.map .str) := by
  refine ⟨AllAlike.of fun _ _ => rfl, Sortable.others (enc := PyData.str) fun b => ⟨(by intro e; cases e), (by intro xs e; cases e)⟩, Nat.le_trans (by rw [List.length_map]; exact h) (by decide), fun d hd => ?_⟩
  obtain ⟨x, _, rfl⟩ := List.mem_map.mp hd
  exact Nat.zero_le _
theorem srtOk_calls {b : List Cl} (h : b.length ≤ 100000) : SrtOk (b.map cD) := by
  refine ⟨AllAlike.of alike_call, Sortable.tuples fun c => ⟨_, _, rfl⟩, Nat.le_trans (by rw [List.length_map]; exact h) (by decide), fun d hd => ?_⟩
  obtain ⟨x, _, rfl⟩ := List.mem_map.mp hd
  show PyData.depth (.tuple [.str x.1, .tuple (x.2.map .str)]) ≤ 50
  have e : PyData.depth (.tuple [.str x.1, .tuple (x.2.map .str)]) = max 0 (max (PyData.depthAll (x.2.map .str) + 1) 0) + 1 := rfl
  rw [e, depth_strs]
  decide
theorem dataLe_name {c d : Cl} (hn : c.1 ≠ d.1) (h : dataLe false cD c d = true) : leS c.1 d.1 = true := by
  have e : dataLe false cD c d = !dataLt (cD d) (cD c) := rfl
  rw [e] at h
  have p : dataLt (cD d) (cD c) = dataLt (.str d.1) (.str c.1) := by
    have q := dataLt_pair (x := .str d.1) (x' := .str c.1) (y := .tuple (d.2.map .str)) (y' := .tuple (c.2.map .str)) rfl (alike_strs d.2 c.2)
    have ne : PyData.eqv (.str d.1) (.str c.1) = false := by
      show decide (d.1 = c.1) = false
      exact decide_eq_false fun z => hn z.symm
    rw [ne, if_neg (by decide)] at q
    exact q
  rw [p] at h
  have e2 : dataLe false (fun s : Str => PyData.str s) c.1 d.1 = !dataLt (.str d.1) (.str c.1) := rfl
  rw [← e2, dataLe_str (fun s : Str => s)] at h
  exact h
theorem srt_pair {b : List Cl} (h : (nms b).Nodup) : (nms (srt b)).Pairwise fun x y => leS x y = true := by
  have h1 : (srt b).Pairwise fun x y => dataLe false cD x y = true := sort_pairwise (sortLe_total _ false _) b
  have h2 : (nms (srt b)).Nodup := ((srt_perm b).map _).nodup_iff.mpr h
  unfold nms at *
  rw [List.pairwise_map]
  unfold List.Nodup at h2
  rw [List.pairwise_map] at h2
  exact (h1.and h2).imp fun ⟨p, q⟩ => dataLe_name q p
theorem srt_names {b : List Cl} (h : (nms b).Nodup) : nms (srt b) = srtN (nms b) := srtN_unique ((srt_perm b).map _) (srt_pair h)
/-- the first call of a name -/
def callOf (b : List Cl) (n : Str) : Option Cl := b.find? fun c => c.1 = n
theorem callOf_mem {b : List Cl} (h : (nms b).Nodup) {c : Cl} (hc : c ∈ b) : callOf b c.1 = some c := by
  unfold callOf
  induction b with
  | nil => cases hc
  | cons d b ih =>
    unfold nms at h
    rw [List.map_cons, List.nodup_cons] at h
    rcases List.mem_cons.mp hc with rfl | hm
    · rw [List.find?_cons_of_pos (by simp)]
    · have : d.1 ≠ c.1 := fun e => h.1 (by rw [e]; exact List.mem_map.mpr ⟨c, hm, rfl⟩)
      rw [List.find?_cons_of_neg (by simpa using this)]
      exact ih h.2 hm
/-- the sorted book by its names -/
theorem srt_calls {b : List Cl} (h : (nms b).Nodup) : (srtN (nms b)).map (callOf b) = (srt b).map some := by
  rw [← srt_names h]
  unfold nms
  rw [List.map_map]
  refine List.map_congr_left fun c hc => ?_
  exact callOf_mem h ((srt_perm b).mem_iff.mp hc)
theorem srt_unique {b b' : List Cl} (h : (nms b).Nodup) (hp : b'.Perm b) (hs : (nms b').Pairwise fun x y => leS x y = true) : srt b = b' := by
  have e1 : nms b' = nms (srt b) := (srtN_unique (hp.map _) hs).trans (srt_names h).symm
  have m1 : b'.map (fun c => callOf b c.1) = b'.map some := List.map_congr_left fun c hc => callOf_mem h (hp.mem_iff.mp hc)
  have m2 : (srt b).map (fun c => callOf b c.1) = (srt b).map some := List.map_congr_left fun c hc => callOf_mem h ((srt_perm b).mem_iff.mp hc)
  have m3 : b'.map (fun c => callOf b c.1) = (srt b).map (fun c => callOf b c.1) := by
    have : (nms b').map (callOf b) = (nms (srt b)).map (callOf b) := by rw [e1]
    unfold nms at this
    rwa [List.map_map, List.map_map] at this
  rw [m1, m2] at m3
  exact ((List.map_inj_right fun a b h => Option.some.inj h).mp m3).symm
theorem nms_srt_nodup {b : List Cl} (h : (nms b).Nodup) : (nms (srt b)).Nodup := ((srt_perm b).map _).nodup_iff.mpr h
theorem srt_len (b : List Cl) : (srt b).length = b.length := (srt_perm b).length_eq
end Zd

set_option Elab.async false
set_option linter.all false
set_option maxRecDepth 100000
set_option maxHeartbeats 4000000
namespace K15
open PySem PySem.Spec PyProof.Rows L2 Zd
/-! the plain law of codes: the first step that is wrong -/
def intB : D → Bool
  | .int _ => true
  | _ => false
def natB : D → Bool
  | .int i => decide (0 ≤ i)
  | _ => false
def isNumB (d : D) (n : Int) : Bool := match d with
  | .int i => decide (0 ≤ i) && decide (i < n)
  | _ => false
def isNameB (ns : List Str) (d : D) : Bool := match d with
  | .str x => decide (x ∈ ns)
  | _ => false
def stepB : D → Bool
  | .tuple (.str _ :: _) => true
  | _ => false
def lenT : D → Nat
  | .tuple ds => ds.length
  | _ => 0
def szW (w : Str) : Option Int := if w = ("do" : Str) then some 2 else if w = ("undo" : Str) then some 2 else if w = ("fork" : Str) then some 2 else if w = ("jump" : Str) then some 2 else if w = ("stop" : Str) then some 1 else none
def wrongW (ns : List Str) (w : Str) (rest : List D) (place many : Int) : Option Str :=
  if szW w ≠ some ((rest.length : Int) + 1) then some "word"
  else match rest with
    | [] => none
    | a :: _ =>
      if (w = ("do" : Str) ∨ w = ("undo" : Str)) ∧ isNameB ns a = false then some "name"
      else if (w = ("fork" : Str) ∨ w = ("jump" : Str)) ∧ isNumB a many = false then some "place"
      else if w ≠ ("jump" : Str) ∧ place = many - 1 then some "place" else none
def wrongD (ns : List Str) (d : D) (place many : Int) : Option Str := match d with
  | .tuple (.str w :: rest) => wrongW ns w rest place many
  | _ => none
def firstW (ns : List Str) (many : Int) : Int → List D → Option (Int × Str)
  | _, [] => none
  | k, d :: ds => match wrongD ns d k many with
    | some w => some (k, w)
    | none => firstW ns many (k + 1) ds
inductive Ans where
  | told (n : Int)
  | ref (p : Int) (w : Str)
def ans (ns : List Str) (d : D) : Ans := match d with
  | .tuple ds => if ds = [] ∨ ds.all stepB = false then .ref (-1) "shape" else match firstW ns ds.length 0 ds with
    | some (p, w) => .ref p w
    | none => .told ds.length
  | _ => .ref (-1) "shape"
theorem szW_cases (w : Str) : (szW w = some 2 ∧ (w = ("do" : Str) ∨ w = ("undo" : Str) ∨ w = ("fork" : Str) ∨ w = ("jump" : Str))) ∨ (szW w = some 1 ∧ w = ("stop" : Str)) ∨ (szW w = none ∧ w ≠ ("do" : Str) ∧ w ≠ ("undo" : Str) ∧ w ≠ ("fork" : Str) ∧ w ≠ ("jump" : Str) ∧ w ≠ ("stop" : Str)) := by
  unfold szW
  by_cases h1 : w = ("do" : Str)
  · exact .inl ⟨by rw [if_pos h1], .inl h1⟩
  · by_cases h2 : w = ("undo" : Str)
    · exact .inl ⟨by rw [if_neg h1, if_pos h2], .inr (.inl h2)⟩
    · by_cases h3 : w = ("fork" : Str)
      · exact .inl ⟨by rw [if_neg h1, if_neg h2, if_pos h3], .inr (.inr (.inl h3))⟩
      · by_cases h4 : w = ("jump" : Str)
        · exact .inl ⟨by rw [if_neg h1, if_neg h2, if_neg h3, if_pos h4], .inr (.inr (.inr h4))⟩
        · by_cases h5 : w = ("stop" : Str)
          · exact .inr (.inl ⟨by rw [if_neg h1, if_neg h2, if_neg h3, if_neg h4, if_pos h5], h5⟩)
          · exact .inr (.inr ⟨by rw [if_neg h1, if_neg h2, if_neg h3, if_neg h4, if_neg h5], h1, h2, h3, h4, h5⟩)
theorem kitd : kitB "dict" "tuple" = some false := by rfl
theorem kitd2 : kitB "dict" "int" = some false := by rfl
theorem kitd3 : kitB "dict" "str" = some false := by rfl
theorem kitd4 : kitB "dict" "bool" = some false := by rfl
end K15

set_option Elab.async false
set_option linter.all false
set_option maxRecDepth 100000
set_option maxHeartbeats 4000000
namespace K15
open PySem PySem.Spec PyProof.Rows L2 Zd
local macro_rules | `(tactic| walk_at "ev") => `(tactic| simp -dsimp (maxSteps := 400000) only [↓hold_app, ↓thn_nx, ↓thn_rt, ↓thn_bk, ↓thn_ct, ↓flatD_ex, ↓exTry_ex, ↓exTry_int, ↓exTry_bool, ↓exTry_str, ↓exTry_tup, ↓exTry_lst, ↓exTry_non, ↓exOf_ex, ↓exOf_int, ↓exOf_bool, ↓exOf_str, ↓exOf_tup, ↓exOf_lst,
  ↓exOf_non, ↓exOf_ow, ↓noEx_ex, ↓noEx_int, ↓noEx_bool, ↓noEx_str, ↓noEx_tup, ↓noEx_lst, ↓noEx_non, ↓noEx_ow, ↓pairX_ex, ↓pairX_int, ↓pairX_bool, ↓pairX_str, ↓pairX_tup, ↓pairX_lst, ↓pairX_non, ↓sEx1_e, ↓sEx2_e, ↓sEx3_e, ↓qRD_e, ↓qDR_e, ↓qLook_e, ↓qVar_e, ↓qMove_e, ↓qC_e, ↓qBin_e, ↓qBinN_e, ↓qBinM_e,
  ↓qTst_e, ↓qTru_e, ↓qAnd_e, ↓qOr_e, ↓qNot_e, ↓qAndV_e, ↓qOrV_e, ↓qNotV_e, ↓qIf_e, ↓qNil_e, ↓qCons_e, ↓qTup_e, ↓qLst_e, ↓qNeg_e, ↓qO0_e, ↓qO1_e, ↓qSl_e, ↓qSlN_e, ↓qCl_e, ↓qIsi_e, ↓qCall_e, ↓qaNil_e, ↓qaD_e, ↓qaN_e, ↓qApp_e, ↓qExt_e, ↓qPop_e, ↓qJoin_e, ↓qItD_e, ↓qRng1_e, ↓qRng2_e, ↓qgName_e, ↓qgNil_e,
  ↓qgCons_e, ↓qgTup_e, ↓qNext_e, ↓qSeq_e, ↓qBrk_e, ↓qCnt_e, ↓qDrop_e, ↓qRet_e, ↓qRetN_e, ↓qIfS_e, ↓qSet_e, ↓qAsg_e, ↓qPar_e, ↓qAugI_e, ↓qFor_e, ↓qYes_e, ↓qLc_e, ↓qReord_e, ↓qPut_e, ↓qBits_e, ↓qJd_e, ↓qJput_e, ↓qJlen_e, ↓qJapp_e, ↓qJpop_e, ↓qJix_e, ↓qJput2_e, ↓qnNil_e, ↓qnCons_e, ↓qnDic_e, ↓qmSeq_e, ↓qmRet_e,
  ↓qmDisp_e, ↓qoRet_e, ↓qMake_e, ↓qKget_e, ↓qKin_e, ↓qRev_e, ↓qSindex_e, ↓qCget_e, ↓qCget2_e, ↓qJin_e, ↓qJmput_e, ↓qJun2_e, ↓qExtT_e, ↓qRng3_e, ↓qZip_e, ↓qExtL_e, ↓qDgx_e, ↓qEnum_e, ↓qDropX_e, ↓qSetX_e, ↓qRaise_e, ↓qCallN_e, ↓qTry_e, ↓qXf_e, ↓qIsX_e, ↓qPairX_e, ↓qChain_e, ↓qUpper_e, ↓qPopAt_e, ↓qDead_e,
  ↓qDeadS_e, ↓qJsee_e, ↓qDx_e, ↓qOdGet_e, ↓qOdIn_e, ↓qD0_e, ↓qOdPut_e, asD, truP, seeD, frz, known, isB, dAdd, dI, dSub, dMul, dFdiv, dMod, dPow, dShl, dC, dC2, dLt, dLe, dGt, dGe, dEqB, dEq, dNe, dIs, Zd.isNon, dIn, dIx, dSl, cLen, cAbs, cInt, cMin, cMax, cGcd, cTuple, cList, tyD, given, resv, frzs,
  behind, flatD, rowD, strsD, itemsD, clean, noOw, wipeD, isOw, putOw, startD, slA, jPart, Jc.put, isT, isTs, keyD, Kd.at, Tb.at, cAny, cAll, cSum, cSortS, zipD, Bool.and_true, Bool.true_and, cSortD, enumD, EndX, atK, qPs, seeOd, isOd, soleOd, Nd.l.injEq, Nd.d.injEq, Nd.m.injEq, Sl.jo.injEq, List.map_append,
  List.getLast?_concat, List.dropLast_concat, Sum.inl.injEq, Sum.inr.injEq, ixl_1_0, ixl_2_0, ixl_2_1, ixl_3_0, ixl_3_1, ixl_3_2, ixl_4_0, ixl_4_1, ixl_4_2, ixl_4_3, ixl_5_0, ixl_5_1, ixl_5_2, ixl_5_3, ixl_5_4, ixl_6_0, ixl_6_1, ixl_6_2, ixl_6_3, ixl_6_4, ixl_6_5, reord, List.getD_cons_zero, List.getD_cons_succ,
  kb_bool_bool, kb_bool_int, kb_bool_str, kb_bool_tuple, kb_bool_list, kb_int_bool, kb_int_int, kb_int_str, kb_int_tuple, kb_int_list, kb_str_bool, kb_str_int, kb_str_str, kb_str_tuple, kb_str_list, kb_tuple_bool, kb_tuple_int, kb_tuple_str, kb_tuple_tuple, kb_tuple_list, kb_list_bool, kb_list_int, kb_list_str,
  kb_list_tuple, kb_list_list, kb_NoneType_bool, kb_NoneType_int, kb_NoneType_str, kb_NoneType_tuple, kb_NoneType_list, List.map_cons, List.map_nil, List.length_cons, List.length_nil, Nat.reduceAdd, Nat.reduceSub, List.replicate_succ, List.replicate_zero, List.cons_append, List.nil_append, List.getElem?_cons_zero,
  List.getElem?_cons_succ, List.getElem?_nil, List.set_cons_zero, List.set_cons_succ, Option.map_some, Option.some.injEq, Option.map_none, PyData.int.injEq, PyData.bool.injEq, PyData.str.injEq, PyData.tuple.injEq, PyData.list.injEq, Sl.da.injEq, Sl.ow.injEq, Ag.d.injEq, List.cons.injEq, exists_eq_left',
  exists_eq_left, exists_eq_right, exists_eq_right', exists_and_left, exists_eq, exists_eq', exists_const, and_true, true_and, and_assoc, decide_eq_true_eq, Bool.not_eq_true', decide_eq_false_iff_not, reduceIte, Bool.false_eq_true, Bool.true_eq_false, Bool.not_true, Bool.not_false, reduceCtorEq, and_false,
  false_and, exists_false, decide_true, decide_false, atI_0, atI_1, atI_2, noJ_nil, noJ_un, noJ_da, noJ_ow, noJ_od, Sl.od.injEq, List.zip_cons_cons, List.zip_nil_right, List.zip_nil_left, abs_nat, Nat.succ_ne_zero, ne_eq, not_false_eq_true, not_true_eq_false])
local macro_rules | `(tactic| walk_at "un") => `(tactic| simp -dsimp (maxSteps := 400000) only [↓loopD_nil, ↓loopD_cons, ↓lcD_nil, ↓lcD_cons, ↓hold_app, ↓thn_nx, ↓thn_rt, ↓thn_bk, ↓thn_ct, ↓flatD_ex, ↓exTry_ex, ↓exTry_int, ↓exTry_bool, ↓exTry_str, ↓exTry_tup, ↓exTry_lst, ↓exTry_non, ↓exOf_ex, ↓exOf_int, ↓exOf_bool, ↓exOf_str, ↓exOf_tup, ↓exOf_lst,
  ↓exOf_non, ↓exOf_ow, ↓noEx_ex, ↓noEx_int, ↓noEx_bool, ↓noEx_str, ↓noEx_tup, ↓noEx_lst, ↓noEx_non, ↓noEx_ow, ↓pairX_ex, ↓pairX_int, ↓pairX_bool, ↓pairX_str, ↓pairX_tup, ↓pairX_lst, ↓pairX_non, ↓sEx1_e, ↓sEx2_e, ↓sEx3_e, ↓qRD_e, ↓qDR_e, ↓qLook_e, ↓qVar_e, ↓qMove_e, ↓qC_e, ↓qBin_e, ↓qBinN_e, ↓qBinM_e,
  ↓qTst_e, ↓qTru_e, ↓qAnd_e, ↓qOr_e, ↓qNot_e, ↓qAndV_e, ↓qOrV_e, ↓qNotV_e, ↓qIf_e, ↓qNil_e, ↓qCons_e, ↓qTup_e, ↓qLst_e, ↓qNeg_e, ↓qO0_e, ↓qO1_e, ↓qSl_e, ↓qSlN_e, ↓qCl_e, ↓qIsi_e, ↓qCall_e, ↓qaNil_e, ↓qaD_e, ↓qaN_e, ↓qApp_e, ↓qExt_e, ↓qPop_e, ↓qJoin_e, ↓qItD_e, ↓qRng1_e, ↓qRng2_e, ↓qgName_e, ↓qgNil_e,
  ↓qgCons_e, ↓qgTup_e, ↓qNext_e, ↓qSeq_e, ↓qBrk_e, ↓qCnt_e, ↓qDrop_e, ↓qRet_e, ↓qRetN_e, ↓qIfS_e, ↓qSet_e, ↓qAsg_e, ↓qPar_e, ↓qAugI_e, ↓qFor_e, ↓qYes_e, ↓qLc_e, ↓qReord_e, ↓qPut_e, ↓qBits_e, ↓qJd_e, ↓qJput_e, ↓qJlen_e, ↓qJapp_e, ↓qJpop_e, ↓qJix_e, ↓qJput2_e, ↓qnNil_e, ↓qnCons_e, ↓qnDic_e, ↓qmSeq_e, ↓qmRet_e,
  ↓qmDisp_e, ↓qoRet_e, ↓qMake_e, ↓qKget_e, ↓qKin_e, ↓qRev_e, ↓qSindex_e, ↓qCget_e, ↓qCget2_e, ↓qJin_e, ↓qJmput_e, ↓qJun2_e, ↓qExtT_e, ↓qRng3_e, ↓qZip_e, ↓qExtL_e, ↓qDgx_e, ↓qEnum_e, ↓qDropX_e, ↓qSetX_e, ↓qRaise_e, ↓qCallN_e, ↓qTry_e, ↓qXf_e, ↓qIsX_e, ↓qPairX_e, ↓qChain_e, ↓qUpper_e, ↓qPopAt_e, ↓qDead_e,
  ↓qDeadS_e, ↓qJsee_e, ↓qDx_e, ↓qOdGet_e, ↓qOdIn_e, ↓qD0_e, ↓qOdPut_e, asD, truP, seeD, frz, known, isB, dAdd, dI, dSub, dMul, dFdiv, dMod, dPow, dShl, dC, dC2, dLt, dLe, dGt, dGe, dEqB, dEq, dNe, dIs, Zd.isNon, dIn, dIx, dSl, cLen, cAbs, cInt, cMin, cMax, cGcd, cTuple, cList, tyD, given, resv, frzs,
  behind, flatD, rowD, strsD, itemsD, clean, noOw, wipeD, isOw, putOw, startD, slA, jPart, Jc.put, isT, isTs, keyD, Kd.at, Tb.at, cAny, cAll, cSum, cSortS, zipD, Bool.and_true, Bool.true_and, cSortD, enumD, EndX, atK, qPs, seeOd, isOd, soleOd, Nd.l.injEq, Nd.d.injEq, Nd.m.injEq, Sl.jo.injEq, List.map_append,
  List.getLast?_concat, List.dropLast_concat, Sum.inl.injEq, Sum.inr.injEq, ixl_1_0, ixl_2_0, ixl_2_1, ixl_3_0, ixl_3_1, ixl_3_2, ixl_4_0, ixl_4_1, ixl_4_2, ixl_4_3, ixl_5_0, ixl_5_1, ixl_5_2, ixl_5_3, ixl_5_4, ixl_6_0, ixl_6_1, ixl_6_2, ixl_6_3, ixl_6_4, ixl_6_5, reord, List.getD_cons_zero, List.getD_cons_succ,
  kb_bool_bool, kb_bool_int, kb_bool_str, kb_bool_tuple, kb_bool_list, kb_int_bool, kb_int_int, kb_int_str, kb_int_tuple, kb_int_list, kb_str_bool, kb_str_int, kb_str_str, kb_str_tuple, kb_str_list, kb_tuple_bool, kb_tuple_int, kb_tuple_str, kb_tuple_tuple, kb_tuple_list, kb_list_bool, kb_list_int, kb_list_str,
  kb_list_tuple, kb_list_list, kb_NoneType_bool, kb_NoneType_int, kb_NoneType_str, kb_NoneType_tuple, kb_NoneType_list, List.map_cons, List.map_nil, List.length_cons, List.length_nil, Nat.reduceAdd, Nat.reduceSub, List.replicate_succ, List.replicate_zero, List.cons_append, List.nil_append, List.getElem?_cons_zero,
  List.getElem?_cons_succ, List.getElem?_nil, List.set_cons_zero, List.set_cons_succ, Option.map_some, Option.some.injEq, Option.map_none, PyData.int.injEq, PyData.bool.injEq, PyData.str.injEq, PyData.tuple.injEq, PyData.list.injEq, Sl.da.injEq, Sl.ow.injEq, Ag.d.injEq, List.cons.injEq, exists_eq_left',
  exists_eq_left, exists_eq_right, exists_eq_right', exists_and_left, exists_eq, exists_eq', exists_const, and_true, true_and, and_assoc, decide_eq_true_eq, Bool.not_eq_true', decide_eq_false_iff_not, reduceIte, Bool.false_eq_true, Bool.true_eq_false, Bool.not_true, Bool.not_false, reduceCtorEq, and_false,
  false_and, exists_false, decide_true, decide_false, atI_0, atI_1, atI_2, noJ_nil, noJ_un, noJ_da, noJ_ow, noJ_od, Sl.od.injEq, List.zip_cons_cons, List.zip_nil_right, List.zip_nil_left, abs_nat, Nat.succ_ne_zero, ne_eq, not_false_eq_true, not_true_eq_false])
def tb_SIZES : Tb := [("do", .int 2), ("undo", .int 2), ("fork", .int 2), ("jump", .int 2), ("stop", .int 1)]
def good (c : Jc) : Prop := ∃ b0 b1 b2 : Int, c = ⟨none, [.d (.int b0), .d (.int b1), .d (.int b2)]⟩
abbrev tS (ns : List Str) : D := .tuple (ns.map .str)
def ansD : Ans → D
  | .told n => .tuple [.str "told", .int n]
  | .ref p w => .tuple [.str "refused", .int p, .str w]
def ansR : Ans → D
  | .told n => .int n
  | .ref p w => exD "BadCode" [.int p, .str w]
def optS : Option Str → D
  | some w => .str w
  | none => .none
def BkOk (b : List Cl) : Prop := 1 ≤ b.length ∧ b.length ≤ 6 ∧ ∀ c ∈ b, 1 ≤ c.1.length ∧ c.1.length ≤ 8 ∧ c.2.length ≤ 3 ∧ ∀ m ∈ c.2, m = ("turn" : Str) ∨ m = ("twist" : Str) ∨ m = ("back" : Str)
/-- a step that the law writes -/
def CdOk (d : D) : Prop := d = .tuple [.str "stop"] ∨ (∃ (w : Str) (i : Int), d = .tuple [.str w, .int i] ∧ (w = ("fork" : Str) ∨ w = ("jump" : Str))) ∨ ∃ (w x : Str), d = .tuple [.str w, .str x] ∧ (w = ("do" : Str) ∨ w = ("undo" : Str)) ∧ x.length ≤ 8
def pp_call_names : PPr := fun gs R => ∃ b : List Cl, gs = [.d (bD b)] ∧ b.length ≤ 10 ∧ R (.da (tS (nms b)))
def pp_is_integer : PPr := fun gs R => ∃ d : D, gs = [.d d] ∧ R (.da (.bool (intB d)))
def pp_is_number : PPr := fun gs R => ∃ d : D, gs = [.d d] ∧ R (.da (.bool (natB d)))
def pp_is_step : PPr := fun gs R => ∃ d : D, gs = [.d d] ∧ R (.da (.bool (stepB d)))
def pp_step_wrong : PPr := fun gs R => ∃ (b : List Cl) (w : Str) (rest : List D) (place many : Int), gs = [.d (bD b), .d (.tuple (.str w :: rest)), .d (.int place), .d (.int many)] ∧ b.length ≤ 10 ∧ R (.da (optS (wrongW (nms b) w rest place many)))
def pp_check_code : PPr := fun gs R => ∃ (b : List Cl) (d : D), gs = [.d (bD b), .d d] ∧ b.length ≤ 10 ∧ lenT d ≤ 1000 ∧ R (.da (ansR (ans (nms b) d)))
def pp__law_mint : PPm := fun gs R => ∃ ns : List Int, gs = [.d (.list (ns.map .int))] ∧ ns.length ≤ 63 ∧ ∀ c, good c → R c
def pp__law_press : PPr := fun gs R => ∃ many, gs = [.j, .d (.int many)] ∧ 1 ≤ many ∧ many < 100000 ∧ ∀ r, 0 ≤ r → r < many → R (.da (.int r))
def pp__law_any : PPr := fun gs R => ∃ ds : List D, (gs = [.j, .d (.list ds)] ∨ gs = [.j, .d (.tuple ds)]) ∧ ds ≠ [] ∧ ds.length < 1000 ∧ ∀ x ∈ ds, R (.da x)
def pp__law_book : PPr := fun gs R => gs = [.j] ∧ ∀ b, BkOk b → R (.da (bD b))
def pp__law_letters : PPr := fun gs R => ∃ ms : List Str, gs = [.d (tS ms)] ∧ ms.length ≤ 3 ∧ (∀ m ∈ ms, m = ("turn" : Str) ∨ m = ("twist" : Str) ∨ m = ("back" : Str)) ∧ ∀ r : Int, R (.da (.int r))
def pp__law_nodes : PPr := fun gs R => ∃ (b : List Cl) (cs : List D), gs = [.d (bD b), .d (.list cs)] ∧ BkOk b ∧ (∀ c ∈ cs, CdOk c) ∧ ∀ r : Int, R (.da (.int r))
def pp__law_code : PPr := fun gs R => ∃ (b : List Cl) (most : Int), gs = [.j, .d (bD b), .d (.int most)] ∧ BkOk b ∧ 1 ≤ most ∧ most ≤ 40 ∧ ∀ cs : List D, 1 ≤ cs.length → cs.length ≤ 40 → (∀ c ∈ cs, CdOk c) → R (.da (.tuple cs))
def pp__law_is_number : PPr := fun gs R => ∃ (d : D) (n : Int), gs = [.d d, .d (.int n)] ∧ R (.da (.bool (isNumB d n)))
def pp__law_wrong : PPr := fun gs R => ∃ (b : List Cl) (ds : List D) (k : Nat) (w : Str) (rest : List D), gs = [.d (bD b), .d (.tuple ds), .d (.int k)] ∧ b.length ≤ 10 ∧ ds[k]? = some (.tuple (.str w :: rest)) ∧ R (.da (.str ((wrongW (nms b) w rest k ds.length).getD "")))
def pp__law_due : PPr := fun gs R => ∃ (b : List Cl) (d : D), gs = [.d (bD b), .d d] ∧ b.length ≤ 10 ∧ lenT d ≤ 1000 ∧ R (.da (ansD (ans (nms b) d)))
def pp__law_heard : PPr := fun gs R => ∃ (b : List Cl) (d : D) (f : Bool), gs = [.d (bD b), .d d, .d (.bool f)] ∧ b.length ≤ 10 ∧ lenT d ≤ 1000 ∧ R (.da (ansD (ans (nms b) d)))
def pp__law_asked : PPr := fun gs R => ∃ (b : List Cl) (d : D) (f : Bool), gs = [.d (bD b), .d d, .d (.bool f)] ∧ b.length ≤ 10 ∧ lenT d ≤ 1000 ∧ R (.da (.bool true))
def pp__law_odd : PPr := fun gs R => ∃ (b : List Cl) (many : Int), gs = [.j, .d (bD b), .d (.int many)] ∧ BkOk b ∧ 1 ≤ many ∧ many ≤ 100 ∧ ∀ d : D, R (.da d)
def pp__law_spoilt : PPr := fun gs R => ∃ (b : List Cl) (cs : List D), gs = [.j, .d (bD b), .d (.tuple cs)] ∧ BkOk b ∧ 1 ≤ cs.length ∧ cs.length ≤ 99 ∧ ∀ ds : List D, ds.length ≤ 2 * cs.length + 1 → R (.da (.tuple ds))
def pp__law_forms : PPr := fun gs R => ∃ (b : List Cl) (cs : List D), gs = [.j, .d (bD b), .d (.tuple cs)] ∧ BkOk b ∧ 1 ≤ cs.length ∧ cs.length ≤ 40 ∧ (∀ c ∈ cs, CdOk c) ∧ R (.da (.bool true))
def pp__law_by_hand : PPr := fun gs R => gs = [] ∧ R (.da (.bool true))
def q_call_names : QS := (qSeq (qRet (qCl cTuple (qCons (qDR (qLc (qItD (qVar 0)) (qgTup 2 (qgCons (qgName 1) (qgCons (qgName 2) qgNil))) qYes (qVar 1) [1, 2])) qNil)))
    qNext)
def q_is_integer : QS := (qSeq (qRet (qRD (qAndV (qIsi "int" (qLook 0)) (qNotV (qIsi "bool" (qLook 0))))))
    qNext)
def q_is_number : QS := (qSeq (qRet (qRD (qAndV (qDR (qCall pp_is_integer (qaN 0 qaNil))) (qDR (qBinM dGe 0 (qC (.int 0)))))))
    qNext)
def q_is_step : QS := (qSeq (qRet (qRD (qAndV (qIsi "tuple" (qLook 0)) (qAndV (qDR (qBin dGt (qDR (qCl cLen (qCons (qLook 0) qNil))) (qC (.int 0)))) (qIsi "str" (qDR (qBinM dIx 0 (qC (.int 0)))))))))
    qNext)
abbrev q_step_wrong_s1 : QS := (qSeq (qRet (qIf (qAnd (qTst (qBinM (dIn fun b => b) 4 (qTup (qCons (qC (.str "do")) (qCons (qC (.str "undo")) (qCons (qC (.str "fork")) qNil)))))) (qTst (qBinM dEq 2 (qDR (qBinM dSub 3 (qC (.int 1))))))) (qRD (qC (.str "place"))) (qRD (qC .none))))
    qNext)
abbrev q_step_wrong_s2 : QS := (qSeq (qIfS (qAnd (qTst (qBinM (dIn fun b => b) 4 (qTup (qCons (qC (.str "fork")) (qCons (qC (.str "jump")) qNil))))) (qNot (qAnd (qTru (qDR (qCall pp_is_number (qaD (qDR (qBinM dIx 1 (qC (.int 1)))) qaNil)))) (qTst (qBin dLt (qDR (qBinM dIx 1 (qC (.int 1)))) (qLook 3)))))) (qSeq (qRet (qRD (qC (.str "place"))))
    qNext) qNext)
    q_step_wrong_s1)
abbrev q_step_wrong_s3 : QS := (qSeq (qIfS (qAnd (qTst (qBinM (dIn fun b => b) 4 (qTup (qCons (qC (.str "do")) (qCons (qC (.str "undo")) qNil))))) (qNot (qAnd (qTru (qIsi "str" (qDR (qBinM dIx 1 (qC (.int 1)))))) (qTst (qBin (dIn fun b => b) (qDR (qBinM dIx 1 (qC (.int 1)))) (qDR (qCall pp_call_names (qaN 0 qaNil)))))))) (qSeq (qRet (qRD (qC (.str "name"))))
    qNext) qNext)
    q_step_wrong_s2)
abbrev q_step_wrong_s4 : QS := (qSeq (qIfS (qOr (qTst (qKin tb_SIZES (fun b => !b) (qVar 4))) (qTst (qBin dNe (qDR (qCl cLen (qCons (qLook 1) qNil))) (qDR (qRD (qKget tb_SIZES (qVar 4))))))) (qSeq (qRet (qRD (qC (.str "word"))))
    qNext) qNext)
    q_step_wrong_s3)
def q_step_wrong : QS := (qSeq (qSet 4 (qBinM dIx 1 (qC (.int 0))))
    q_step_wrong_s4)
abbrev q_check_code_ck1 : QS := (qSeq (qRet (qCl cLen (qCons (qLook 1) qNil)))
    qNext)
def q_check_code_k1 : QS := q_check_code_ck1
theorem q_check_code_k1_e (E : EndD) (ρ : List Sl) : q_check_code_k1 E ρ = q_check_code_ck1 E ρ := rfl
abbrev q_check_code_s1 : QS := (qSeq (qIfS (qTst (qBinM (dIs fun b => !b) 4 (qC .none))) (qSeq (qRaise "BadCode" (qCons (qVar 2) (qCons (qVar 4) qNil)))
    qNext) qNext)
    qNext)
abbrev q_check_code_cb1 : QS := (qSeq (qSet 4 (qCall pp_step_wrong (qaN 0 (qaN 3 (qaN 2 (qaD (qDR (qCl cLen (qCons (qLook 1) qNil))) qaNil))))))
    q_check_code_s1)
def q_check_code_b1 : QS := q_check_code_cb1
theorem q_check_code_b1_e (E : EndD) (ρ : List Sl) : q_check_code_b1 E ρ = q_check_code_cb1 E ρ := rfl
abbrev q_check_code_s2 : QS := (qSeq (qFor (qEnum (qVar 1)) (qgTup 2 (qgCons (qgName 2) (qgCons (qgName 3) qgNil))) q_check_code_b1)
    q_check_code_k1)
def q_check_code : QS := (qSeq (qIfS (qOr (qNot (qTru (qIsi "tuple" (qLook 1)))) (qOr (qTst (qBin dEq (qDR (qCl cLen (qCons (qLook 1) qNil))) (qC (.int 0)))) (qNot (qTru (qDR (qCl cAll (qCons (qDR (qLc (qItD (qVar 1)) (qgName 3) qYes (qDR (qCall pp_is_step (qaN 3 qaNil))) [3])) qNil))))))) (qSeq (qRaise "BadCode" (qCons (qNeg (qC (.int 1))) (qCons (qC (.str "shape")) qNil)))
    qNext) qNext)
    q_check_code_s2)
abbrev q__law_mint_cb1 : QS := (qSeq (qSet 1 (qBin dAdd (qDR (qBin dAdd (qDR (qBinM dMul 1 (qC (.int 1000453)))) (qDR (qBin dMod (qDR (qCl cAbs (qCons (qDR (qCl cInt (qCons (qLook 2) qNil))) qNil))) (qDR (qBin dShl (qC (.int 1)) (qC (.int 2000)))))))) (qC (.int 30))))
    qNext)
def q__law_mint_b1 : QS := q__law_mint_cb1
theorem q__law_mint_b1_e (E : EndD) (ρ : List Sl) : q__law_mint_b1 E ρ = q__law_mint_cb1 E ρ := rfl
def q__law_mint : QM := (qmSeq (qSet 1 (qRD (qC (.int 15))))
    (qmSeq (qFor (qItD (qDR (qSlN 0 qO0 (qO1 (qC (.int 24)))))) (qgName 2) q__law_mint_b1)
    (qmRet (qnCons (qMove 1) (qnCons (qRD (qC (.int 0))) (qnCons (qBinM dMod 1 (qC (.int 2147483179))) qnNil))))))
abbrev q__law_press_s1 : QS := (qSeq (qRet (qMove 2))
    qNext)
abbrev q__law_press_s2 : QS := (qSeq (qJput 0 0 (qDR (qBin dFdiv (qDR (qJd 0 0)) (qLook 1))))
    q__law_press_s1)
abbrev q__law_press_s3 : QS := (qSeq (qSet 2 (qBin dMod (qDR (qBin dAdd (qDR (qCl cInt (qCons (qDR (qJd 0 0)) qNil))) (qDR (qBin dMul (qDR (qJd 0 1)) (qC (.int 61)))))) (qLook 1)))
    q__law_press_s2)
abbrev q__law_press_s4 : QS := (qSeq (qRet (qBin dMod (qDR (qBin dAdd (qDR (qBin dFdiv (qDR (qCl cInt (qCons (qDR (qJd 0 2)) qNil))) (qC (.int 97)))) (qDR (qJd 0 1)))) (qLook 1)))
    qNext)
abbrev q__law_press_s5 : QS := (qSeq (qIfS (qTst (qBin dLt (qDR (qJd 0 0)) (qLook 1))) (qSeq (qJput 0 2 (qDR (qBin dMod (qDR (qBin dAdd (qDR (qBin dAdd (qDR (qBin dMul (qDR (qCl cInt (qCons (qDR (qJd 0 2)) qNil))) (qC (.int 69621)))) (qDR (qBin dMul (qDR (qJd 0 1)) (qC (.int 14009)))))) (qC (.int 15)))) (qC (.int 2147483647)))))
    q__law_press_s4) qNext)
    q__law_press_s3)
def q__law_press : QS := (qSeq (qJput 0 1 (qDR (qBin dAdd (qDR (qJd 0 1)) (qC (.int 1)))))
    q__law_press_s5)
def q__law_any : QS := (qSeq (qRet (qBinM dIx 1 (qDR (qCall pp__law_press (qaN 0 (qaD (qDR (qCl cLen (qCons (qLook 1) qNil))) qaNil))))))
    qNext)
abbrev q__law_book_ck1 : QS := (qSeq (qRet (qCl cTuple (qCons (qLook 4) qNil)))
    qNext)
def q__law_book_k1 : QS := q__law_book_ck1
theorem q__law_book_k1_e (E : EndD) (ρ : List Sl) : q__law_book_k1 E ρ = q__law_book_ck1 E ρ := rfl
abbrev q__law_book_cb1 : QS := (qSeq (qDrop (qApp 4 (qTup (qCons (qVar 3) (qCons (qDR (qCl cTuple (qCons (qDR (qLc (qRng1 (qCons (qDR (qBin dAdd (qC (.int 1)) (qDR (qCall pp__law_press (qaN 0 (qaD (qC (.int 3)) qaNil)))))) qNil)) (qgName 2) qYes (qDR (qCall pp__law_any (qaN 0 (qaD (qDR (qLst (qCons (qC (.str "turn")) (qCons (qC (.str "twist")) (qCons (qC (.str "back")) qNil))))) qaNil)))) [2])) qNil))) qNil)))))
    qNext)
def q__law_book_b1 : QS := q__law_book_cb1
theorem q__law_book_b1_e (E : EndD) (ρ : List Sl) : q__law_book_b1 E ρ = q__law_book_cb1 E ρ := rfl
abbrev q__law_book_s1 : QS := (qSeq (qFor (qItD (qDR (qCl cSortD (qCons (qLook 1) qNil)))) (qgName 3) q__law_book_b1)
    q__law_book_k1)
abbrev q__law_book_ck2 : QS := (qSeq (qSet 4 (qLst qNil))
    q__law_book_s1)
def q__law_book_k2 : QS := q__law_book_ck2
theorem q__law_book_k2_e (E : EndD) (ρ : List Sl) : q__law_book_k2 E ρ = q__law_book_ck2 E ρ := rfl
abbrev q__law_book_s2 : QS := (qSeq (qIfS (qTst (qBinM (dIn fun b => !b) 3 (qLook 1))) (qSeq (qDrop (qApp 1 (qVar 3)))
    qNext) qNext)
    qNext)
abbrev q__law_book_cb2 : QS := (qSeq (qSet 3 (qCall pp__law_any (qaN 0 (qaD (qDR (qLst (qCons (qC (.str "a")) (qCons (qC (.str "b")) (qCons (qC (.str "ab")) (qCons (qC (.str "a1")) (qCons (qC (.str "cross")) (qCons (qC (.str "swing")) (qCons (qC (.str "dodo")) (qCons (qC (.str "stops")) (qCons (qC (.str "f")) (qCons (qC (.str "jump1")) (qCons (qC (.str "z9z9z9z9")) (qCons (qC (.str "forks")) (qCons (qC (.str "x")) qNil))))))))))))))) qaNil))))
    q__law_book_s2)
def q__law_book_b2 : QS := q__law_book_cb2
theorem q__law_book_b2_e (E : EndD) (ρ : List Sl) : q__law_book_b2 E ρ = q__law_book_cb2 E ρ := rfl
abbrev q__law_book_s3 : QS := (qSeq (qFor (qRng1 (qCons (qDR (qBin dAdd (qC (.int 1)) (qDR (qCall pp__law_press (qaN 0 (qaD (qC (.int 6)) qaNil)))))) qNil)) (qgName 2) q__law_book_b2)
    q__law_book_k2)
def q__law_book : QS := (qSeq (qSet 1 (qLst qNil))
    q__law_book_s3)
abbrev q__law_letters_ck1 : QS := (qSeq (qRet (qCl cLen (qCons (qLook 1) qNil)))
    qNext)
def q__law_letters_k1 : QS := q__law_letters_ck1
theorem q__law_letters_k1_e (E : EndD) (ρ : List Sl) : q__law_letters_k1 E ρ = q__law_letters_ck1 E ρ := rfl
abbrev q__law_letters_s1 : QS := (qSeq (qIfS (qAnd (qTst (qBinM dEq 4 (qLook 5))) (qTst (qBinM dNe 4 (qC (.str "s"))))) (qSeq (qDrop (qApp 1 (qDR (qIf (qTst (qBinM dEq 4 (qC (.str "w")))) (qRD (qC (.str "v"))) (qRD (qC (.str "w")))))))
    qNext) qNext)
    qNext)
abbrev q__law_letters_s2 : QS := (qSeq (qSet 5 (qPop 1))
    q__law_letters_s1)
abbrev q__law_letters_cb1 : QS := (qSeq (qSet 4 (qPop 1))
    q__law_letters_s2)
def q__law_letters_b1 : QS := q__law_letters_cb1
theorem q__law_letters_b1_e (E : EndD) (ρ : List Sl) : q__law_letters_b1 E ρ = q__law_letters_cb1 E ρ := rfl
abbrev q__law_letters_s3 : QS := (qSeq (qWhile (qAnd (qTst (qBin dGt (qDR (qCl cLen (qCons (qLook 1) qNil))) (qC (.int 1)))) (qTst (qBin dEq (qDR (qBin dEq (qDR (qBinM dIx 1 (qNeg (qC (.int 1))))) (qC (.str "s")))) (qDR (qBin dEq (qDR (qBinM dIx 1 (qNeg (qC (.int 2))))) (qC (.str "s"))))))) q__law_letters_b1)
    qNext)
abbrev q__law_letters_cb2 : QS := (qSeq (qDrop (qApp 1 (qVar 3)))
    q__law_letters_s3)
def q__law_letters_b2 : QS := q__law_letters_cb2
theorem q__law_letters_b2_e (E : EndD) (ρ : List Sl) : q__law_letters_b2 E ρ = q__law_letters_cb2 E ρ := rfl
abbrev q__law_letters_cb3 : QS := (qSeq (qFor (qItD (qDR (qCget ([(.inr "turn", .str "s"), (.inr "twist", .str "ws"), (.inr "back", .str "sv")] : Kd) (qVar 2)))) (qgName 3) q__law_letters_b2)
    qNext)
def q__law_letters_b3 : QS := q__law_letters_cb3
theorem q__law_letters_b3_e (E : EndD) (ρ : List Sl) : q__law_letters_b3 E ρ = q__law_letters_cb3 E ρ := rfl
abbrev q__law_letters_s4 : QS := (qSeq (qFor (qItD (qVar 0)) (qgName 2) q__law_letters_b3)
    q__law_letters_k1)
def q__law_letters : QS := (qSeq (qSet 1 (qLst qNil))
    q__law_letters_s4)
abbrev q__law_nodes_ck1 : QS := (qSeq (qRet (qMove 2))
    qNext)
def q__law_nodes_k1 : QS := q__law_nodes_ck1
theorem q__law_nodes_k1_e (E : EndD) (ρ : List Sl) : q__law_nodes_k1 E ρ = q__law_nodes_ck1 E ρ := rfl
abbrev q__law_nodes_cb1 : QS := (qSeq (qIfS (qAnd (qTst (qBin (dIn fun b => b) (qDR (qBinM dIx 3 (qC (.int 0)))) (qDR (qLst (qCons (qC (.str "do")) (qCons (qC (.str "undo")) qNil)))))) (qTst (qBin dEq (qDR (qBinM dIx 3 (qC (.int 1)))) (qLook 4)))) (qSeq (qSet 2 (qBinM dAdd 2 (qDR (qCl cMax (qCons (qC (.int 0)) (qCons (qDR (qBin dSub (qDR (qCall pp__law_letters (qaN 5 qaNil))) (qC (.int 1)))) qNil))))))
    qNext) qNext)
    qNext)
def q__law_nodes_b1 : QS := q__law_nodes_cb1
theorem q__law_nodes_b1_e (E : EndD) (ρ : List Sl) : q__law_nodes_b1 E ρ = q__law_nodes_cb1 E ρ := rfl
abbrev q__law_nodes_cb2 : QS := (qSeq (qFor (qItD (qVar 0)) (qgTup 2 (qgCons (qgName 4) (qgCons (qgName 5) qgNil))) q__law_nodes_b1)
    qNext)
def q__law_nodes_b2 : QS := q__law_nodes_cb2
theorem q__law_nodes_b2_e (E : EndD) (ρ : List Sl) : q__law_nodes_b2 E ρ = q__law_nodes_cb2 E ρ := rfl
abbrev q__law_nodes_s1 : QS := (qSeq (qFor (qItD (qVar 1)) (qgName 3) q__law_nodes_b2)
    q__law_nodes_k1)
def q__law_nodes : QS := (qSeq (qSet 2 (qCl cLen (qCons (qLook 1) qNil)))
    q__law_nodes_s1)
abbrev q__law_code_s1 : QS := (qSeq (qRet (qCl cTuple (qCons (qLook 3) qNil)))
    qNext)
abbrev q__law_code_ck1 : QS := (qSeq (qDrop (qApp 3 (qDR (qCall pp__law_any (qaN 0 (qaD (qDR (qLst (qCons (qTup (qCons (qC (.str "stop")) qNil)) (qCons (qTup (qCons (qC (.str "jump")) (qCons (qDR (qCall pp__law_press (qaN 0 (qaN 2 qaNil)))) qNil))) (qCons (qTup (qCons (qC (.str "stop")) qNil)) qNil))))) qaNil))))))
    q__law_code_s1)
def q__law_code_k1 : QS := q__law_code_ck1
theorem q__law_code_k1_e (E : EndD) (ρ : List Sl) : q__law_code_k1 E ρ = q__law_code_ck1 E ρ := rfl
abbrev q__law_code_ck2 : QS := (qSeq (qDrop (qApp 3 (qVar 6)))
    qNext)
def q__law_code_k2 : QS := q__law_code_ck2
theorem q__law_code_k2_e (E : EndD) (ρ : List Sl) : q__law_code_k2 E ρ = q__law_code_ck2 E ρ := rfl
abbrev q__law_code_s2 : QS := (qSeq (qIfS (qTst (qBin dGt (qDR (qBin dSub (qDR (qBin dAdd (qDR (qCall pp__law_nodes (qaN 1 (qaD (qDR (qBinM dAdd 3 (qDR (qLst (qCons (qVar 6) qNil))))) qaNil)))) (qLook 2))) (qLook 4))) (qC (.int 48)))) (qSeq (qSet 6 (qRD (qTup (qCons (qC (.str "stop")) qNil))))
    qNext) qNext)
    qNext)
abbrev q__law_code_s3 : QS := (qSeq (qIfS (qTst (qBinM dLt 5 (qC (.int 3)))) (qSeq (qSet 6 (qRD (qTup (qCons (qDR (qCall pp__law_any (qaN 0 (qaD (qDR (qLst (qCons (qC (.str "do")) (qCons (qC (.str "undo")) qNil)))) qaNil)))) (qCons (qDR (qBin dIx (qDR (qCall pp__law_any (qaN 0 (qaN 1 qaNil)))) (qC (.int 0)))) qNil)))))
    q__law_code_s2) (qSeq (qIfS (qTst (qBinM dLt 5 (qC (.int 5)))) (qSeq (qSet 6 (qRD (qTup (qCons (qDR (qBin dIx (qDR (qLst (qCons (qC (.str "fork")) (qCons (qC (.str "jump")) qNil)))) (qDR (qBinM dSub 5 (qC (.int 3)))))) (qCons (qDR (qCall pp__law_any (qaN 0 (qaD (qDR (qLst (qCons (qC (.int 0)) (qCons (qDR (qBinM dSub 2 (qC (.int 1)))) (qCons (qDR (qCall pp__law_press (qaN 0 (qaN 2 qaNil)))) qNil))))) qaNil)))) qNil)))))
    qNext) qNext)
    qNext))
    q__law_code_k2)
abbrev q__law_code_s4 : QS := (qSeq (qSet 6 (qRD (qTup (qCons (qC (.str "stop")) qNil))))
    q__law_code_s3)
abbrev q__law_code_cb1 : QS := (qSeq (qSet 5 (qCall pp__law_press (qaN 0 (qaD (qC (.int 6)) qaNil))))
    q__law_code_s4)
def q__law_code_b1 : QS := q__law_code_cb1
theorem q__law_code_b1_e (E : EndD) (ρ : List Sl) : q__law_code_b1 E ρ = q__law_code_cb1 E ρ := rfl
abbrev q__law_code_s5 : QS := (qSeq (qFor (qRng1 (qCons (qDR (qBinM dSub 2 (qC (.int 1)))) qNil)) (qgName 4) q__law_code_b1)
    q__law_code_k1)
def q__law_code : QS := (qSeq (qSet 3 (qLst qNil))
    q__law_code_s5)
def q__law_is_number : QS := (qSeq (qRet (qRD (qAndV (qIsi "int" (qLook 0)) (qAndV (qNotV (qIsi "bool" (qLook 0))) (qDR (qChain dLe dLt (qC (.int 0)) (qVar 0) (qLook 1)))))))
    qNext)
abbrev q__law_wrong_ck1 : QS := (qSeq (qRet (qIf (qAnd (qTst (qBin dNe (qDR (qBinM dIx 3 (qC (.int 0)))) (qC (.str "jump")))) (qTst (qBinM dEq 2 (qDR (qBin dSub (qDR (qCl cLen (qCons (qLook 1) qNil))) (qC (.int 1))))))) (qRD (qC (.str "place"))) (qRD (qC (.str "")))))
    qNext)
def q__law_wrong_k1 : QS := q__law_wrong_ck1
theorem q__law_wrong_k1_e (E : EndD) (ρ : List Sl) : q__law_wrong_k1 E ρ = q__law_wrong_ck1 E ρ := rfl
abbrev q__law_wrong_s1 : QS := (qSeq (qIfS (qTst (qBin (dIn fun b => b) (qDR (qBinM dIx 3 (qC (.int 0)))) (qDR (qLst (qCons (qC (.str "do")) (qCons (qC (.str "undo")) qNil)))))) (qSeq (qIfS (qOr (qNot (qTru (qIsi "str" (qDR (qBinM dIx 3 (qC (.int 1))))))) (qTst (qBin (dIn fun b => !b) (qDR (qBinM dIx 3 (qC (.int 1)))) (qDR (qLc (qItD (qVar 0)) (qgTup 2 (qgCons (qgName 5) (qgCons (qgName 6) qgNil))) qYes (qVar 5) [5, 6]))))) (qSeq (qRet (qRD (qC (.str "name"))))
    qNext) qNext)
    qNext) (qSeq (qIfS (qNot (qTru (qDR (qCall pp__law_is_number (qaD (qDR (qBinM dIx 3 (qC (.int 1)))) (qaD (qDR (qCl cLen (qCons (qLook 1) qNil))) qaNil)))))) (qSeq (qRet (qRD (qC (.str "place"))))
    qNext) qNext)
    qNext))
    q__law_wrong_k1)
abbrev q__law_wrong_s2 : QS := (qSeq (qIfS (qTst (qBin dEq (qDR (qBinM dIx 3 (qC (.int 0)))) (qC (.str "stop")))) (qSeq (qRet (qRD (qC (.str ""))))
    qNext) qNext)
    q__law_wrong_s1)
abbrev q__law_wrong_s3 : QS := (qSeq (qIfS (qOr (qTst (qOdIn 4 (fun b => !b) (qDR (qBinM dIx 3 (qC (.int 0)))))) (qTst (qBin dNe (qDR (qCl cLen (qCons (qLook 3) qNil))) (qDR (qRD (qOdGet 4 (qDR (qBinM dIx 3 (qC (.int 0)))))))))) (qSeq (qRet (qRD (qC (.str "word"))))
    qNext) qNext)
    q__law_wrong_s2)
abbrev q__law_wrong_s4 : QS := (qSeq (qSet 4 (qDx [(.inr "do", (qC (.int 2))), (.inr "undo", (qC (.int 2))), (.inr "fork", (qC (.int 2))), (.inr "jump", (qC (.int 2))), (.inr "stop", (qC (.int 1)))]))
    q__law_wrong_s3)
def q__law_wrong : QS := (qSeq (qSet 3 (qBinM dIx 1 (qLook 2)))
    q__law_wrong_s4)
abbrev q__law_due_ck1 : QS := (qSeq (qRet (qRD (qTup (qCons (qC (.str "told")) (qCons (qDR (qCl cLen (qCons (qLook 1) qNil))) qNil)))))
    qNext)
def q__law_due_k1 : QS := q__law_due_ck1
theorem q__law_due_k1_e (E : EndD) (ρ : List Sl) : q__law_due_k1 E ρ = q__law_due_ck1 E ρ := rfl
abbrev q__law_due_s1 : QS := (qSeq (qIfS (qTst (qBinM dNe 4 (qC (.str "")))) (qSeq (qRet (qRD (qTup (qCons (qC (.str "refused")) (qCons (qVar 3) (qCons (qVar 4) qNil))))))
    qNext) qNext)
    qNext)
abbrev q__law_due_cb1 : QS := (qSeq (qSet 4 (qCall pp__law_wrong (qaN 0 (qaN 1 (qaN 3 qaNil)))))
    q__law_due_s1)
def q__law_due_b1 : QS := q__law_due_cb1
theorem q__law_due_b1_e (E : EndD) (ρ : List Sl) : q__law_due_b1 E ρ = q__law_due_cb1 E ρ := rfl
abbrev q__law_due_ck2 : QS := (qSeq (qFor (qRng1 (qCons (qDR (qCl cLen (qCons (qLook 1) qNil))) qNil)) (qgName 3) q__law_due_b1)
    q__law_due_k1)
def q__law_due_k2 : QS := q__law_due_ck2
theorem q__law_due_k2_e (E : EndD) (ρ : List Sl) : q__law_due_k2 E ρ = q__law_due_ck2 E ρ := rfl
abbrev q__law_due_cb2 : QS := (qSeq (qIfS (qOr (qNot (qTru (qIsi "tuple" (qLook 2)))) (qOr (qTst (qBin dEq (qDR (qCl cLen (qCons (qLook 2) qNil))) (qC (.int 0)))) (qNot (qTru (qIsi "str" (qDR (qBinM dIx 2 (qC (.int 0))))))))) (qSeq (qRet (qRD (qTup (qCons (qC (.str "refused")) (qCons (qNeg (qC (.int 1))) (qCons (qC (.str "shape")) qNil))))))
    qNext) qNext)
    qNext)
def q__law_due_b2 : QS := q__law_due_cb2
theorem q__law_due_b2_e (E : EndD) (ρ : List Sl) : q__law_due_b2 E ρ = q__law_due_cb2 E ρ := rfl
abbrev q__law_due_s2 : QS := (qSeq (qFor (qItD (qVar 1)) (qgName 2) q__law_due_b2)
    q__law_due_k2)
def q__law_due : QS := (qSeq (qIfS (qOr (qNot (qTru (qIsi "tuple" (qLook 1)))) (qTst (qBin dEq (qDR (qCl cLen (qCons (qLook 1) qNil))) (qC (.int 0))))) (qSeq (qRet (qRD (qTup (qCons (qC (.str "refused")) (qCons (qNeg (qC (.int 1))) (qCons (qC (.str "shape")) qNil))))))
    qNext) qNext)
    q__law_due_s2)
def q__law_heard : QS := (qSeq (qTry 3 (fun _ => true) (qSeq (qRet (qPairX (qC (.str "told")) (qIf (qTru (qVar 2)) (qCall pp_check_code (qReord [1, 0] 2 (qaN 1 (qaN 0 qaNil)))) (qCall pp_check_code (qaN 0 (qaN 1 qaNil))))))
    qNext) (sEx2 fun d0 d1 => (qSeq (qRet (qIf (qTru (qIsX 3 true)) (qRD (qTup (qCons (qC (.str "refused")) (qCons (qXf 3 d0) (qCons (qXf 3 d1) qNil))))) (qRD (qTup (qCons (qC (.str "other")) qNil)))))
    qNext)))
    qNext)
abbrev q__law_asked_s1 : QS := (qSeq (qRet (qRD (qOrV (qDR (qBin dEq (qDR (qCl cLen (qCons (qLook 4) qNil))) (qC (.int 2)))) (qAndV (qIsi "str" (qDR (qBinM dIx 3 (qC (.int 2))))) (qDR (qBin dEq (qDR (qBinM dIx 3 (qC (.int 2)))) (qDR (qBinM dIx 4 (qC (.int 2))))))))))
    qNext)
abbrev q__law_asked_s2 : QS := (qSeq (qIfS (qOr (qNot (qTru (qIsi "int" (qDR (qBinM dIx 3 (qC (.int 1))))))) (qOr (qTru (qIsi "bool" (qDR (qBinM dIx 3 (qC (.int 1)))))) (qTst (qBin dNe (qDR (qBinM dIx 3 (qC (.int 1)))) (qDR (qBinM dIx 4 (qC (.int 1)))))))) (qSeq (qRet (qRD (qC (.bool false))))
    qNext) qNext)
    q__law_asked_s1)
abbrev q__law_asked_s3 : QS := (qSeq (qIfS (qOr (qTst (qBin dNe (qDR (qCl cLen (qCons (qLook 3) qNil))) (qDR (qCl cLen (qCons (qLook 4) qNil))))) (qTst (qBin dNe (qDR (qBinM dIx 3 (qC (.int 0)))) (qDR (qBinM dIx 4 (qC (.int 0))))))) (qSeq (qRet (qRD (qC (.bool false))))
    qNext) qNext)
    q__law_asked_s2)
abbrev q__law_asked_s4 : QS := (qSeq (qSet 4 (qCall pp__law_due (qaN 0 (qaN 1 qaNil))))
    q__law_asked_s3)
def q__law_asked : QS := (qSeq (qSet 3 (qCall pp__law_heard (qaN 0 (qaN 1 (qaN 2 qaNil)))))
    q__law_asked_s4)
abbrev q__law_odd_s1 : QS := (qSeq (qRet (qRD (qTup (qCons (qC (.str "stop")) qNil))))
    qNext)
abbrev q__law_odd_s2 : QS := (qSeq (qIfS (qTst (qBinM dEq 4 (qC (.int 6)))) (qSeq (qRet (qRD (qTup (qCons (qDR (qCall pp__law_any (qaN 0 (qaD (qDR (qLst (qCons (qC (.str "fork")) (qCons (qC (.str "jump")) qNil)))) qaNil)))) (qCons (qDR (qCall pp__law_press (qaN 0 (qaD (qDR (qBinM dAdd 2 (qC (.int 1)))) qaNil)))) qNil)))))
    qNext) qNext)
    q__law_odd_s1)
abbrev q__law_odd_s3 : QS := (qSeq (qIfS (qTst (qBinM dEq 4 (qC (.int 5)))) (qSeq (qRet (qCall pp__law_any (qaN 0 (qaD (qDR (qLst (qCons (qDR (qLst (qCons (qC (.str "stop")) qNil))) (qCons (qTup qNil) (qCons (qC .none) (qCons (qC (.str "stop")) (qCons (qTup (qCons (qC (.int 0)) qNil)) (qCons (qTup (qCons (qC .none) (qCons (qC (.int 0)) qNil))) (qCons (qTup (qCons (qC (.bool true)) qNil)) (qCons (qTup (qCons (qTup (qCons (qC (.str "do")) (qCons (qDR (qBinM dIx 3 (qC (.int 0)))) qNil))) qNil)) (qCons (qDR (qLst (qCons (qC (.str "do")) (qCons (qDR (qBinM dIx 3 (qC (.int 0)))) qNil)))) (qCons (qC (.int 7)) (qCons (qDR (qLst qNil)) (qCons (qTup (qCons (qTup qNil) qNil)) (qCons (qTup (qCons (qDR (qLst (qCons (qC (.str "do")) qNil))) (qCons (qC (.int 0)) qNil))) qNil))))))))))))))) qaNil))))
    qNext) qNext)
    q__law_odd_s2)
abbrev q__law_odd_s4 : QS := (qSeq (qIfS (qTst (qBinM dEq 4 (qC (.int 4)))) (qSeq (qRet (qCall pp__law_any (qaN 0 (qaD (qDR (qLst (qCons (qTup (qCons (qC (.str "do")) (qCons (qDR (qBinM dIx 3 (qC (.int 0)))) qNil))) (qCons (qTup (qCons (qC (.str "undo")) (qCons (qDR (qBinM dIx 3 (qNeg (qC (.int 1))))) qNil))) (qCons (qTup (qCons (qC (.str "fork")) (qCons (qC (.int 0)) qNil))) (qCons (qTup (qCons (qC (.str "fork")) (qCons (qDR (qBinM dSub 2 (qC (.int 1)))) qNil))) qNil)))))) qaNil))))
    qNext) qNext)
    q__law_odd_s3)
abbrev q__law_odd_s5 : QS := (qSeq (qRet (qRD (qTup (qCons (qDR (qCall pp__law_any (qaN 0 (qaD (qDR (qLst (qCons (qC (.str "fork")) (qCons (qC (.str "jump")) qNil)))) qaNil)))) (qCons (qDR (qCall pp__law_any (qaN 0 (qaN 6 qaNil)))) qNil)))))
    qNext)
abbrev q__law_odd_s6 : QS := (qSeq (qIfS (qTst (qBinM dEq 4 (qC (.int 3)))) (qSeq (qSet 6 (qLst (qCons (qVar 2) (qCons (qDR (qBinM dAdd 2 (qC (.int 1)))) (qCons (qNeg (qC (.int 1))) (qCons (qC (.bool true)) (qCons (qC (.bool false)) (qCons (qC .none) (qCons (qC (.str "0")) (qCons (qC (.str "1")) (qCons (qTup (qCons (qC (.int 0)) qNil)) (qCons (qDR (qLst (qCons (qC (.int 0)) qNil))) (qCons (qDR (qBin dPow (qC (.int 10)) (qC (.int 59)))) (qCons (qNeg (qVar 2)) (qCons (qDR (qBinM dIx 3 (qC (.int 0)))) (qCons (qDR (qBinM dSub 2 (qC (.int 1)))) qNil))))))))))))))))
    q__law_odd_s5) qNext)
    q__law_odd_s4)
abbrev q__law_odd_s7 : QS := (qSeq (qRet (qRD (qTup (qCons (qDR (qCall pp__law_any (qaN 0 (qaD (qDR (qLst (qCons (qC (.str "do")) (qCons (qC (.str "undo")) qNil)))) qaNil)))) (qCons (qDR (qCall pp__law_any (qaN 0 (qaN 6 qaNil)))) qNil)))))
    qNext)
abbrev q__law_odd_s8 : QS := (qSeq (qIfS (qTst (qBinM dEq 4 (qC (.int 2)))) (qSeq (qSet 6 (qLst (qCons (qC (.str "")) (qCons (qC (.str "zzz")) (qCons (qDR (qBin dAdd (qDR (qBinM dIx 3 (qC (.int 0)))) (qC (.str "x")))) (qCons (qUpper (qDR (qBinM dIx 3 (qNeg (qC (.int 1)))))) (qCons (qC .none) (qCons (qC (.int 0)) (qCons (qC (.bool true)) (qCons (qTup (qCons (qDR (qBinM dIx 3 (qC (.int 0)))) qNil)) (qCons (qDR (qLst (qCons (qDR (qBinM dIx 3 (qC (.int 0)))) qNil))) (qCons (qVar 3) (qCons (qDR (qBin dPow (qC (.int 10)) (qC (.int 59)))) (qCons (qC (.str "do")) (qCons (qDR (qSl (qDR (qBinM dIx 3 (qC (.int 0)))) qO0 (qO1 (qNeg (qC (.int 1)))))) (qCons (qDR (qBin dAdd (qDR (qBinM dIx 3 (qC (.int 0)))) (qC (.str " ")))) qNil))))))))))))))))
    q__law_odd_s7) qNext)
    q__law_odd_s6)
abbrev q__law_odd_s9 : QS := (qSeq (qIfS (qTst (qBinM dEq 4 (qC (.int 1)))) (qSeq (qRet (qCall pp__law_any (qaN 0 (qaD (qDR (qLst (qCons (qTup (qCons (qVar 5) qNil)) (qCons (qTup (qCons (qVar 5) (qCons (qC (.int 0)) (qCons (qC (.int 0)) qNil)))) (qCons (qTup (qCons (qVar 5) (qCons (qDR (qBinM dIx 3 (qC (.int 0)))) (qCons (qC (.int 0)) qNil)))) (qCons (qTup (qCons (qC (.str "stop")) (qCons (qC (.int 0)) qNil))) (qCons (qTup (qCons (qC (.str "stop")) (qCons (qC (.str "stop")) qNil))) (qCons (qTup (qCons (qC (.str "stop")) (qCons (qTup qNil) qNil))) (qCons (qTup (qCons (qC (.str "do")) (qCons (qDR (qBinM dIx 3 (qC (.int 0)))) (qCons (qDR (qBinM dIx 3 (qC (.int 0)))) qNil)))) qNil))))))))) qaNil))))
    qNext) qNext)
    q__law_odd_s8)
abbrev q__law_odd_s10 : QS := (qSeq (qIfS (qTst (qBinM dEq 4 (qC (.int 0)))) (qSeq (qRet (qRD (qTup (qCons (qDR (qCall pp__law_any (qaN 0 (qaD (qDR (qLst (qCons (qC (.str "Do")) (qCons (qC (.str "")) (qCons (qC (.str "redo")) (qCons (qC (.str "call")) (qCons (qC (.str "stop ")) (qCons (qC (.str "any")) (qCons (qC (.str "do undo")) (qCons (qC (.str "forks")) (qCons (qC (.str "place")) qNil))))))))))) qaNil)))) (qCons (qDR (qCall pp__law_any (qaN 0 (qaD (qDR (qLst (qCons (qC (.int 0)) (qCons (qDR (qBinM dIx 3 (qC (.int 0)))) qNil)))) qaNil)))) qNil)))))
    qNext) qNext)
    q__law_odd_s9)
abbrev q__law_odd_s11 : QS := (qSeq (qSet 5 (qCall pp__law_any (qaN 0 (qaD (qDR (qLst (qCons (qC (.str "do")) (qCons (qC (.str "undo")) (qCons (qC (.str "fork")) (qCons (qC (.str "jump")) qNil)))))) qaNil))))
    q__law_odd_s10)
abbrev q__law_odd_s12 : QS := (qSeq (qSet 4 (qCall pp__law_press (qaN 0 (qaD (qC (.int 8)) qaNil))))
    q__law_odd_s11)
def q__law_odd : QS := (qSeq (qSet 3 (qLc (qItD (qVar 1)) (qgTup 2 (qgCons (qgName 7) (qgCons (qgName 8) qgNil))) qYes (qVar 7) [7, 8]))
    q__law_odd_s12)
abbrev q__law_spoilt_s1 : QS := (qSeq (qRet (qIf (qOr (qTst (qBinM dEq 4 (qC (.int 5)))) (qTst (qBin dGt (qDR (qCl cLen (qCons (qLook 2) qNil))) (qC (.int 38))))) (qBin dAdd (qDR (qSlN 2 qO0 (qO1 (qNeg (qC (.int 1)))))) (qTup (qCons (qVar 5) qNil))) (qBinM dAdd 2 (qTup (qCons (qVar 5) qNil)))))
    qNext)
abbrev q__law_spoilt_s2 : QS := (qSeq (qIfS (qAnd (qTst (qBinM dEq 4 (qC (.int 4)))) (qTst (qBin dGt (qDR (qCl cLen (qCons (qLook 2) qNil))) (qC (.int 1))))) (qSeq (qRet (qBin dAdd (qDR (qSlN 2 qO0 (qO1 (qVar 3)))) (qDR (qSlN 2 (qO1 (qDR (qBinM dAdd 3 (qC (.int 1))))) qO0))))
    qNext) qNext)
    q__law_spoilt_s1)
abbrev q__law_spoilt_s3 : QS := (qSeq (qIfS (qTst (qBinM dLt 4 (qC (.int 4)))) (qSeq (qRet (qBin dAdd (qDR (qBin dAdd (qDR (qSlN 2 qO0 (qO1 (qVar 3)))) (qTup (qCons (qVar 5) qNil)))) (qDR (qSlN 2 (qO1 (qDR (qBinM dAdd 3 (qC (.int 1))))) qO0))))
    qNext) qNext)
    q__law_spoilt_s2)
abbrev q__law_spoilt_s4 : QS := (qSeq (qSet 5 (qCall pp__law_odd (qaN 0 (qaN 1 (qaD (qDR (qCl cLen (qCons (qLook 2) qNil))) qaNil)))))
    q__law_spoilt_s3)
abbrev q__law_spoilt_s5 : QS := (qSeq (qSet 4 (qCall pp__law_press (qaN 0 (qaD (qC (.int 6)) qaNil))))
    q__law_spoilt_s4)
def q__law_spoilt : QS := (qSeq (qSet 3 (qIf (qTst (qBin dEq (qDR (qCall pp__law_press (qaN 0 (qaD (qC (.int 3)) qaNil)))) (qC (.int 0)))) (qBin dSub (qDR (qCl cLen (qCons (qLook 2) qNil))) (qC (.int 1))) (qCall pp__law_press (qaN 0 (qaD (qDR (qCl cLen (qCons (qLook 2) qNil))) qaNil)))))
    q__law_spoilt_s5)
abbrev q__law_forms_ck1 : QS := (qSeq (qRet (qCall pp__law_asked (qaD (qDR (qCl cTuple (qCons (qDR (qCl cSortD (qCons (qLook 3) qNil))) qNil))) (qaN 2 (qaD (qC (.bool false)) qaNil)))))
    qNext)
def q__law_forms_k1 : QS := q__law_forms_ck1
theorem q__law_forms_k1_e (E : EndD) (ρ : List Sl) : q__law_forms_k1 E ρ = q__law_forms_ck1 E ρ := rfl
abbrev q__law_forms_cb1 : QS := (qSeq (qIfS (qNot (qTru (qDR (qCall pp__law_asked (qaN 1 (qaD (qDR (qCall pp__law_any (qaN 0 (qaN 4 qaNil)))) (qaD (qC (.bool false)) qaNil))))))) (qSeq (qRet (qRD (qC (.bool false))))
    qNext) qNext)
    qNext)
def q__law_forms_b1 : QS := q__law_forms_cb1
theorem q__law_forms_b1_e (E : EndD) (ρ : List Sl) : q__law_forms_b1 E ρ = q__law_forms_cb1 E ρ := rfl
abbrev q__law_forms_s1 : QS := (qSeq (qFor (qRng1 (qCons (qC (.int 5)) qNil)) (qgName 5) q__law_forms_b1)
    q__law_forms_k1)
abbrev q__law_forms_s2 : QS := (qSeq (qSet 4 (qLst (qCons (qC .none) (qCons (qTup qNil) (qCons (qDR (qLst qNil)) (qCons (qDR (qCl cList (qCons (qLook 2) qNil))) (qCons (qC (.str "stop")) (qCons (qC (.int 0)) (qCons (qC (.bool true)) (qCons (qTup (qCons (qVar 2) qNil)) (qCons (qDR (qLst (qCons (qVar 2) qNil))) (qCons (qDR (qBin dAdd (qDR (qSlN 2 qO0 (qO1 (qNeg (qC (.int 1)))))) (qTup (qCons (qC .none) qNil)))) (qCons (qDR (qBin dAdd (qTup (qCons (qDR (qCl cList (qCons (qDR (qBinM dIx 2 (qC (.int 0)))) qNil))) qNil)) (qDR (qSlN 2 (qO1 (qC (.int 1))) qO0)))) (qCons (qTup (qCons (qC (.str "stop")) qNil)) (qCons (qTup (qCons (qTup (qCons (qC (.str "stop")) qNil)) (qCons (qC (.str "stop")) qNil))) (qCons (qTup (qCons (qTup qNil) qNil)) qNil))))))))))))))))
    q__law_forms_s1)
def q__law_forms : QS := (qSeq (qSet 3 (qCl cTuple (qCons (qDR (qLc (qItD (qVar 1)) (qgTup 2 (qgCons (qgName 6) (qgCons (qgName 7) qgNil))) qYes (qTup (qCons (qDR (qIf (qTst (qBin dLt (qDR (qCl cLen (qCons (qLook 6) qNil))) (qC (.int 8)))) (qBinM dAdd 6 (qC (.str "q"))) (qBin dAdd (qC (.str "q")) (qDR (qSlN 6 (qO1 (qC (.int 1))) qO0))))) (qCons (qVar 7) qNil))) [6, 7])) qNil)))
    q__law_forms_s2)
abbrev q__law_by_hand_ck1 : QS := (qSeq (qRet (qRD (qC (.bool true))))
    qNext)
def q__law_by_hand_k1 : QS := q__law_by_hand_ck1
theorem q__law_by_hand_k1_e (E : EndD) (ρ : List Sl) : q__law_by_hand_k1 E ρ = q__law_by_hand_ck1 E ρ := rfl
abbrev q__law_by_hand_cb1 : QS := (qSeq (qIfS (qOr (qTst (qBin dNe (qDR (qCall pp__law_due (qaN 0 (qaN 2 qaNil)))) (qLook 3))) (qNot (qTru (qDR (qCall pp__law_asked (qaN 0 (qaN 2 (qaD (qC (.bool false)) qaNil)))))))) (qSeq (qRet (qRD (qC (.bool false))))
    qNext) qNext)
    qNext)
def q__law_by_hand_b1 : QS := q__law_by_hand_cb1
theorem q__law_by_hand_b1_e (E : EndD) (ρ : List Sl) : q__law_by_hand_b1 E ρ = q__law_by_hand_cb1 E ρ := rfl
abbrev q__law_by_hand_s1 : QS := (qSeq (qFor (qItD (qVar 1)) (qgTup 2 (qgCons (qgName 2) (qgCons (qgName 3) qgNil))) q__law_by_hand_b1)
    q__law_by_hand_k1)
abbrev q__law_by_hand_s2 : QS := (qSeq (qSet 1 (qBinM dAdd 1 (qDR (qLst (qCons (qTup (qCons (qTup (qCons (qTup (qCons (qC (.str "do")) (qCons (qC .none) qNil))) (qCons (qTup (qCons (qC (.str "stop")) qNil)) qNil))) (qCons (qTup (qCons (qC (.str "refused")) (qCons (qC (.int 0)) (qCons (qC (.str "name")) qNil)))) qNil))) (qCons (qTup (qCons (qTup (qCons (qTup (qCons (qC (.str "jump")) (qCons (qNeg (qC (.int 1))) qNil))) (qCons (qTup (qCons (qC (.str "stop")) qNil)) qNil))) (qCons (qTup (qCons (qC (.str "refused")) (qCons (qC (.int 0)) (qCons (qC (.str "place")) qNil)))) qNil))) (qCons (qTup (qCons (qTup (qCons (qTup (qCons (qC (.str "fork")) (qCons (qC (.int 1)) qNil))) (qCons (qTup (qCons (qC (.str "fork")) (qCons (qC (.int 0)) qNil))) qNil))) (qCons (qTup (qCons (qC (.str "refused")) (qCons (qC (.int 1)) (qCons (qC (.str "place")) qNil)))) qNil))) qNil)))))))
    q__law_by_hand_s1)
abbrev q__law_by_hand_s3 : QS := (qSeq (qSet 1 (qBinM dAdd 1 (qDR (qLst (qCons (qTup (qCons (qTup (qCons (qTup (qCons (qC (.str "stop")) (qCons (qC (.int 0)) qNil))) qNil)) (qCons (qTup (qCons (qC (.str "refused")) (qCons (qC (.int 0)) (qCons (qC (.str "word")) qNil)))) qNil))) (qCons (qTup (qCons (qTup (qCons (qTup (qCons (qC (.str "jump")) (qCons (qC (.str "0")) qNil))) (qCons (qTup (qCons (qC (.str "stop")) qNil)) qNil))) (qCons (qTup (qCons (qC (.str "refused")) (qCons (qC (.int 0)) (qCons (qC (.str "place")) qNil)))) qNil))) (qCons (qTup (qCons (qTup (qCons (qTup (qCons (qC (.str "stop")) qNil)) (qCons (qTup (qCons (qC (.str "stop")) qNil)) (qCons (qTup (qCons (qC (.int 1)) qNil)) qNil)))) (qCons (qTup (qCons (qC (.str "refused")) (qCons (qNeg (qC (.int 1))) (qCons (qC (.str "shape")) qNil)))) qNil))) qNil)))))))
    q__law_by_hand_s2)
abbrev q__law_by_hand_s4 : QS := (qSeq (qSet 1 (qBinM dAdd 1 (qDR (qLst (qCons (qTup (qCons (qTup (qCons (qTup (qCons (qC (.str "halt")) qNil)) (qCons (qTup qNil) qNil))) (qCons (qTup (qCons (qC (.str "refused")) (qCons (qNeg (qC (.int 1))) (qCons (qC (.str "shape")) qNil)))) qNil))) (qCons (qTup (qCons (qTup (qCons (qTup (qCons (qC (.str "do")) (qCons (qC (.str "c")) qNil))) (qCons (qDR (qLst (qCons (qC (.str "stop")) qNil))) qNil))) (qCons (qTup (qCons (qC (.str "refused")) (qCons (qNeg (qC (.int 1))) (qCons (qC (.str "shape")) qNil)))) qNil))) (qCons (qTup (qCons (qDR (qLst (qCons (qTup (qCons (qC (.str "stop")) qNil)) qNil))) (qCons (qTup (qCons (qC (.str "refused")) (qCons (qNeg (qC (.int 1))) (qCons (qC (.str "shape")) qNil)))) qNil))) qNil)))))))
    q__law_by_hand_s3)
abbrev q__law_by_hand_s5 : QS := (qSeq (qSet 1 (qBinM dAdd 1 (qDR (qLst (qCons (qTup (qCons (qTup (qCons (qTup (qCons (qC (.str "do")) (qCons (qC (.str "a")) (qCons (qC (.int 0)) qNil)))) (qCons (qTup (qCons (qC (.str "do")) (qCons (qC (.str "c")) qNil))) qNil))) (qCons (qTup (qCons (qC (.str "refused")) (qCons (qC (.int 0)) (qCons (qC (.str "word")) qNil)))) qNil))) (qCons (qTup (qCons (qTup (qCons (qTup (qCons (qC (.str "do")) (qCons (qC (.str "c")) qNil))) (qCons (qTup (qCons (qC (.str "halt")) qNil)) qNil))) (qCons (qTup (qCons (qC (.str "refused")) (qCons (qC (.int 0)) (qCons (qC (.str "name")) qNil)))) qNil))) (qCons (qTup (qCons (qTup (qCons (qTup (qCons (qC (.str "stop")) qNil)) (qCons (qTup (qCons (qC (.str "undo")) (qCons (qC (.str "b")) qNil))) qNil))) (qCons (qTup (qCons (qC (.str "refused")) (qCons (qC (.int 1)) (qCons (qC (.str "place")) qNil)))) qNil))) qNil)))))))
    q__law_by_hand_s4)
abbrev q__law_by_hand_s6 : QS := (qSeq (qSet 1 (qBinM dAdd 1 (qDR (qLst (qCons (qTup (qCons (qTup (qCons (qTup (qCons (qC (.str "jump")) (qCons (qC (.int 1)) qNil))) qNil)) (qCons (qTup (qCons (qC (.str "refused")) (qCons (qC (.int 0)) (qCons (qC (.str "place")) qNil)))) qNil))) (qCons (qTup (qCons (qTup (qCons (qTup (qCons (qC (.str "fork")) (qCons (qC (.int 2)) qNil))) (qCons (qTup (qCons (qC (.str "stop")) qNil)) qNil))) (qCons (qTup (qCons (qC (.str "refused")) (qCons (qC (.int 0)) (qCons (qC (.str "place")) qNil)))) qNil))) (qCons (qTup (qCons (qTup (qCons (qTup (qCons (qC (.str "fork")) (qCons (qC (.bool true)) qNil))) (qCons (qTup (qCons (qC (.str "stop")) qNil)) qNil))) (qCons (qTup (qCons (qC (.str "refused")) (qCons (qC (.int 0)) (qCons (qC (.str "place")) qNil)))) qNil))) qNil)))))))
    q__law_by_hand_s5)
abbrev q__law_by_hand_s7 : QS := (qSeq (qSet 1 (qBinM dAdd 1 (qDR (qLst (qCons (qTup (qCons (qTup (qCons (qTup (qCons (qC (.str "do")) (qCons (qC (.str "a")) qNil))) qNil)) (qCons (qTup (qCons (qC (.str "refused")) (qCons (qC (.int 0)) (qCons (qC (.str "place")) qNil)))) qNil))) (qCons (qTup (qCons (qTup (qCons (qTup (qCons (qC (.str "do")) (qCons (qC (.str "c")) qNil))) qNil)) (qCons (qTup (qCons (qC (.str "refused")) (qCons (qC (.int 0)) (qCons (qC (.str "name")) qNil)))) qNil))) (qCons (qTup (qCons (qTup (qCons (qTup (qCons (qC (.str "fork")) (qCons (qC (.int 0)) qNil))) qNil)) (qCons (qTup (qCons (qC (.str "refused")) (qCons (qC (.int 0)) (qCons (qC (.str "place")) qNil)))) qNil))) qNil)))))))
    q__law_by_hand_s6)
abbrev q__law_by_hand_s8 : QS := (qSeq (qSet 1 (qLst (qCons (qTup (qCons (qTup (qCons (qTup (qCons (qC (.str "stop")) qNil)) qNil)) (qCons (qTup (qCons (qC (.str "told")) (qCons (qC (.int 1)) qNil))) qNil))) (qCons (qTup (qCons (qTup (qCons (qTup (qCons (qC (.str "jump")) (qCons (qC (.int 0)) qNil))) qNil)) (qCons (qTup (qCons (qC (.str "told")) (qCons (qC (.int 1)) qNil))) qNil))) (qCons (qTup (qCons (qTup (qCons (qTup (qCons (qC (.str "fork")) (qCons (qC (.int 1)) qNil))) (qCons (qTup (qCons (qC (.str "do")) (qCons (qC (.str "a")) qNil))) (qCons (qTup (qCons (qC (.str "undo")) (qCons (qC (.str "b")) qNil))) (qCons (qTup (qCons (qC (.str "jump")) (qCons (qC (.int 0)) qNil))) (qCons (qTup (qCons (qC (.str "stop")) qNil)) qNil)))))) (qCons (qTup (qCons (qC (.str "told")) (qCons (qC (.int 5)) qNil))) qNil))) qNil)))))
    q__law_by_hand_s7)
def q__law_by_hand : QS := (qSeq (qSet 0 (qRD (qTup (qCons (qTup (qCons (qC (.str "a")) (qCons (qTup (qCons (qC (.str "turn")) qNil)) qNil))) (qCons (qTup (qCons (qC (.str "b")) (qCons (qTup (qCons (qC (.str "twist")) qNil)) qNil))) qNil)))))
    q__law_by_hand_s8)
abbrev q_law_ck1 : QS := (qSeq (qRet (qRD (qC (.bool true))))
    qNext)
def q_law_k1 : QS := q_law_ck1
theorem q_law_k1_e (E : EndD) (ρ : List Sl) : q_law_k1 E ρ = q_law_ck1 E ρ := rfl
abbrev q_law_ck2 : QS := (qSeq (qIfS (qNot (qTru (qDR (qCall pp__law_asked (qaN 4 (qaN 7 (qaD (qC (.bool false)) qaNil))))))) (qSeq (qRet (qRD (qC (.bool false))))
    qNext) qNext)
    qNext)
def q_law_k2 : QS := q_law_ck2
theorem q_law_k2_e (E : EndD) (ρ : List Sl) : q_law_k2 E ρ = q_law_ck2 E ρ := rfl
abbrev q_law_s1 : QS := (qSeq (qIfS (qAnd (qTst (qBinM dGt 6 (qC (.int 8)))) (qTst (qBin dGt (qDR (qCl cLen (qCons (qLook 7) qNil))) (qC (.int 0))))) (qSeq (qSet 7 (qCall pp__law_spoilt (qaN 1 (qaN 4 (qaN 7 qaNil)))))
    qNext) qNext)
    q_law_k2)
abbrev q_law_cb1 : QS := (qSeq (qSet 7 (qCall pp__law_spoilt (qaN 1 (qaN 4 (qaN 5 qaNil)))))
    q_law_s1)
def q_law_b1 : QS := q_law_cb1
theorem q_law_b1_e (E : EndD) (ρ : List Sl) : q_law_b1 E ρ = q_law_cb1 E ρ := rfl
abbrev q_law_s2 : QS := (qSeq (qFor (qRng1 (qCons (qC (.int 12)) qNil)) (qgName 6) q_law_b1)
    qNext)
abbrev q_law_s3 : QS := (qSeq (qIfS (qOr (qNot (qTru (qDR (qCall pp__law_asked (qaN 4 (qaN 5 (qaD (qC (.bool true)) qaNil))))))) (qNot (qTru (qDR (qCall pp__law_forms (qaN 1 (qaN 4 (qaN 5 qaNil)))))))) (qSeq (qRet (qRD (qC (.bool false))))
    qNext) qNext)
    q_law_s2)
abbrev q_law_s4 : QS := (qSeq (qSet 5 (qCall pp__law_code (qaN 1 (qaN 4 (qaN 3 qaNil)))))
    q_law_s3)
abbrev q_law_cb2 : QS := (qSeq (qSet 4 (qCall pp__law_book (qaN 1 qaNil)))
    q_law_s4)
def q_law_b2 : QS := q_law_cb2
theorem q_law_b2_e (E : EndD) (ρ : List Sl) : q_law_b2 E ρ = q_law_cb2 E ρ := rfl
abbrev q_law_s5 : QS := (qSeq (qFor (qItD (qDR (qLst (qCons (qDR (qBin dAdd (qC (.int 1)) (qDR (qCall pp__law_press (qaN 1 (qaD (qC (.int 4)) qaNil)))))) (qCons (qDR (qBin dAdd (qC (.int 2)) (qDR (qCall pp__law_press (qaN 1 (qaD (qC (.int 8)) qaNil)))))) (qCons (qDR (qBin dAdd (qC (.int 4)) (qDR (qCall pp__law_press (qaN 1 (qaD (qC (.int 11)) qaNil)))))) (qCons (qDR (qIf (qTru (qVar 2)) (qRD (qC (.int 40))) (qRD (qC (.int 3))))) qNil))))))) (qgName 3) q_law_b2)
    q_law_k1)
abbrev q_law_s6 : QS := (qSeq (qIfS (qNot (qTru (qDR (qCall pp__law_by_hand qaNil)))) (qSeq (qRet (qRD (qC (.bool false))))
    qNext) qNext)
    q_law_s5)
def q_law : QS := (qMake 1 good pp__law_mint (qaN 0 qaNil)
    (qSeq (qSet 2 (qBin dEq (qDR (qBin dMod (qDR (qJsee good 1 2)) (qC (.int 7)))) (qC (.int 5))))
    q_law_s6))
theorem len_call_names : ∀ gs R, pp_call_names gs R → gs.length = 1 := by
  rintro gs R ⟨b, rfl, _⟩; rfl
theorem lc_map {α : Type} {g : QG} {qt : QT} {q : QD} {vs : List Nat} {ρ : List Sl} {F : List D → Prop} (f : α → D) (t : α → Bool) (h : α → D) (as : List α) (hn : as.length ≤ 1000) (h0 : F ((as.filter t).map h))
    (hs : ∀ (a : α), a ∈ as → ∀ (acc : List D) (G : List D → Prop), acc.length < sizeLine → (if t a = true then G (acc ++ [h a]) else G acc) → g (f a) (wipeD ρ vs) fun ρ1 => qt ρ1 fun b ρ2 => if b = true then q ρ2 fun x ρ3 => wipeD ρ3 vs = wipeD ρ vs ∧ acc.length < sizeLine ∧ G (acc ++ [x]) else wipeD ρ2 vs = wipeD ρ vs ∧ G acc) :
    lcD g qt q vs ρ F (as.map f) [] := by
  have big : 1001 ≤ sizeLine := by decide
  refine lc_of (fun ds acc => ∃ a b : List α, a ++ b = as ∧ ds = b.map f ∧ acc = (a.filter t).map h) ?_ ?_ _ _ ⟨[], as, rfl, rfl, rfl⟩
  · rintro acc ⟨a, b, hab, hb, rfl⟩
    cases b with
    | cons x b => cases hb
    | nil =>
      rw [List.append_nil] at hab
      subst hab
      exact h0
  · rintro d ds acc ⟨a, b, hab, hb, rfl⟩ ih
    cases b with
    | nil => cases hb
    | cons x b =>
      cases hb
      have e : (a ++ [x]) ++ b = as := by rw [List.append_assoc]; exact hab
      have hl := congrArg List.length hab
      rw [List.length_append] at hl
      have hf := List.length_filter_le t a
      refine hs x (by rw [← hab]; simp) _ _ (by rw [List.length_map]; omega) ?_
      split
      · rename_i ht
        exact ih _ ⟨a ++ [x], b, e, rfl, by rw [List.filter_append, List.map_append, List.filter_cons_of_pos ht]; rfl⟩
      · rename_i ht
        exact ih _ ⟨a ++ [x], b, e, rfl, by rw [List.filter_append, List.map_append, List.filter_cons_of_neg ht]; simp⟩
theorem filter_true {α : Type} (as : List α) : as.filter (fun _ => true) = as := List.filter_eq_self.mpr fun _ _ => rfl
theorem spec_call_names : ∀ gs R, pp_call_names gs R → q_call_names (Ends0 R) (startD 3 gs) := by
  rintro gs R ⟨b, rfl, hb, h⟩
  unfold q_call_names bD
  walk_at "ev"
  refine lc_map cD (fun _ => true) (fun c => PyData.str c.1) b (by omega) ?_ fun c hc acc G ha hG => ?_
  · rw [filter_true]
    unfold tS nms at h
    rw [List.map_map] at h
    exact h
  · unfold cD
    walk_at "ev"
    exact ⟨ha, hG⟩
theorem in_strs (x : Str) : ∀ ns : List Str, inD (.str x) (ns.map .str) = decide (x ∈ ns)
  | [] => rfl
  | n :: ns => by
    have ih := in_strs x ns
    show (decide (n = x) || inD (.str x) (ns.map .str)) = _
    rw [ih]
    by_cases h : n = x
    · subst h
      simp
    · rw [decide_eq_false h, Bool.false_or]
      by_cases h2 : x ∈ ns
      · rw [decide_eq_true h2, decide_eq_true (List.mem_cons_of_mem _ h2)]
      · rw [decide_eq_false h2, decide_eq_false (fun m => by rcases List.mem_cons.mp m with e | e; exact h e.symm; exact h2 e)]
theorem flat_strs (ns : List Str) : (ns.map PyData.str).all flatD = true := by
  rw [List.all_eq_true]
  intro d hd
  obtain ⟨x, _, rfl⟩ := List.mem_map.mp hd
  rfl
theorem lc_drawn {α : Type} {g : QG} {qt : QT} {q : QD} {vs : List Nat} {ρ : List Sl} {F : List D → Prop} (f : α → D) (n : Nat) (lo : Int) (hn : n ≤ 300) (h0 : ∀ v : List α, v.length = n → F (v.map f))
    (hs : ∀ (i : Int) (acc : List D) (G : List D → Prop), acc.length < sizeLine → (∀ a : α, G (acc ++ [f a])) → g (.int i) (wipeD ρ vs) fun ρ1 => qt ρ1 fun b ρ2 => if b = true then q ρ2 fun x ρ3 => wipeD ρ3 vs = wipeD ρ vs ∧ acc.length < sizeLine ∧ G (acc ++ [x]) else wipeD ρ2 vs = wipeD ρ vs ∧ G acc) :
    lcD g qt q vs ρ F (rangeD lo n) [] := by
  have big : 1000 ≤ sizeLine := by decide
  refine lc_of (fun ds acc => ∃ (lo : Int) (k : Nat) (v : List α), ds = rangeD lo k ∧ v.length + k = n ∧ acc = v.map f) ?_ ?_ _ _ ⟨lo, n, [], rfl, Nat.zero_add _, rfl⟩
  · rintro acc ⟨lo, k, v, hd, hk, rfl⟩
    cases k with
    | succ k => cases hd
    | zero => exact h0 v hk
  · rintro d ds acc ⟨lo, k, v, hd, hk, rfl⟩ ih
    cases k with
    | zero => cases hd
    | succ k =>
      unfold rangeD at hd
      cases hd
      exact hs _ _ _ (by rw [List.length_map]; omega) fun a => ih _ ⟨_, k, v ++ [a], rfl, by rw [List.length_append, List.length_singleton]; omega, by rw [List.map_append]; rfl⟩
theorem at0 {α : Type} (x : α) (xs : List α) : atI (x :: xs) 0 = some x := by
  unfold atI ixN
  rw [if_pos (by omega), if_pos (by rw [List.length_cons]; omega)]
  rfl
theorem cut_take (x : Str) (k : Nat) : cutS x none (some (k : Int)) = ⟨(x.cps.toList.take k).toArray⟩ := by
  unfold cutS
  rw [HT.sIx_nat, HT.sIx_none, List.drop_zero, Nat.sub_zero]
  have e : x.length = x.cps.toList.length := by rw [Array.length_toList]; rfl
  rw [e]
  congr 2
  by_cases h : k ≤ x.cps.toList.length
  · rw [Nat.min_eq_left h]
  · rw [Nat.min_eq_right (by omega), List.take_of_length_le (Nat.le_refl _), List.take_of_length_le (by omega)]
theorem len_is_integer : ∀ gs R, pp_is_integer gs R → gs.length = 1 := by
  rintro gs R ⟨d, rfl, _⟩; rfl
theorem spec_is_integer : ∀ gs R, pp_is_integer gs R → q_is_integer (Ends0 R) (startD 1 gs) := by
  rintro gs R ⟨d, rfl, h⟩
  unfold q_is_integer
  unfold intB at h
  cases d with
  | dict kv =>
    walk_at "ev"
    exact ⟨_, kitd2, h⟩
  | _ =>
    walk_at "ev"
    exact h
theorem len_is_number : ∀ gs R, pp_is_number gs R → gs.length = 1 := by
  rintro gs R ⟨d, rfl, _⟩; rfl
theorem spec_is_number : ∀ gs R, pp_is_number gs R → q_is_number (Ends0 R) (startD 1 gs) := by
  rintro gs R ⟨d, rfl, h⟩
  unfold q_is_number
  unfold natB at h
  walk_at "ev"
  refine ⟨d, rfl, ?_⟩
  unfold intB
  cases d with
  | int i =>
    walk_at "ev"
    exact h
  | _ =>
    walk_at "ev"
    exact h
theorem len_is_step : ∀ gs R, pp_is_step gs R → gs.length = 1 := by
  rintro gs R ⟨d, rfl, _⟩; rfl
theorem spec_is_step : ∀ gs R, pp_is_step gs R → q_is_step (Ends0 R) (startD 1 gs) := by
  rintro gs R ⟨d, rfl, h⟩
  unfold q_is_step
  cases d with
  | dict kv =>
    walk_at "ev"
    exact ⟨_, kitd, h⟩
  | tuple ds =>
    cases ds with
    | nil =>
      walk_at "ev"
      exact h
    | cons a r =>
      cases a with
      | dict kv =>
        walk_at "ev"
        rw [if_pos (by omega)]
        exact ⟨_, kitd3, h⟩
      | _ =>
        walk_at "ev"
        rw [if_pos (by omega)]
        exact h
  | _ =>
    walk_at "ev"
    exact h
theorem tb_at (w : Str) : tb_SIZES.at w = (szW w).map PyData.int := by
  unfold szW
  simp only [tb_SIZES, Tb.at]
  repeat' split
  all_goals first | rfl | (exfalso; simp_all)
theorem in_do (w : Str) : inD (.str w) [.str "do", .str "undo"] = decide (w = ("do" : Str) ∨ w = ("undo" : Str)) := (in_strs w [("do" : Str), ("undo" : Str)]).trans (decide_eq_decide.mpr (by simp))
theorem in_fork (w : Str) : inD (.str w) [.str "fork", .str "jump"] = decide (w = ("fork" : Str) ∨ w = ("jump" : Str)) := (in_strs w [("fork" : Str), ("jump" : Str)]).trans (decide_eq_decide.mpr (by simp))
theorem in_dof (w : Str) : inD (.str w) [.str "do", .str "undo", .str "fork"] = decide (w = ("do" : Str) ∨ w = ("undo" : Str) ∨ w = ("fork" : Str)) := (in_strs w [("do" : Str), ("undo" : Str), ("fork" : Str)]).trans (decide_eq_decide.mpr (by simp))
theorem at1 (x y : D) (xs : List D) : atI (x :: y :: xs) 1 = some y := by
  unfold atI ixN
  rw [if_pos (by omega), if_pos (by simp only [List.length_cons]; omega)]
  rfl
theorem len_step_wrong : ∀ gs R, pp_step_wrong gs R → gs.length = 4 := by
  rintro gs R ⟨b, w, rest, p, m, rfl, _⟩; rfl
theorem spec_step_wrong : ∀ gs R, pp_step_wrong gs R → q_step_wrong (Ends0 R) (startD 5 gs) := by
  rintro gs R ⟨b, w, rest, p, m, rfl, hb, h⟩
  unfold q_step_wrong bD
  walk_at "ev"
  rw [tb_at]
  unfold wrongW at h
  rcases szW_cases w with ⟨e, hw⟩ | ⟨e, rfl⟩ | ⟨e, hw⟩
  · rw [e] at h
    rw [e, if_neg (by decide)]
    refine ⟨_, rfl, ?_⟩
    dsimp only
    match rest, h with
    | [], h =>
      rw [if_pos (by decide)]
      exact h
    | _ :: _ :: _, h =>
      rw [if_pos (by intro z; have := Option.some.inj z; simp only [List.length_cons] at this; omega)] at h
      rw [if_pos (by simp only [List.length_cons]; omega)]
      exact h
    | [a], h =>
      rw [if_neg (by intro z; exact z rfl)] at h
      have h : R (.da (optS (if (w = ("do" : Str) ∨ w = ("undo" : Str)) ∧ isNameB (nms b) a = false then some "name" else if (w = ("fork" : Str) ∨ w = ("jump" : Str)) ∧ isNumB a m = false then some "place" else if w ≠ ("jump" : Str) ∧ p = m - 1 then some "place" else none))) := h
      rw [if_neg (by intro z; exact z rfl)]
      refine ⟨rfl, ?_⟩
      rw [in_do]
      have last : R (.da (optS (if w ≠ ("jump" : Str) ∧ p = m - 1 then some "place" else none))) → q_step_wrong_s1 (Ends0 R) [.da (.tuple (b.map cD)), .da (.tuple [.str w, a]), .da (.int p), .da (.int m), .da (.str w)] := by
        intro h
        walk_at "ev"
        refine ⟨rfl, ?_⟩
        rw [in_dof]
        have hj : w ≠ ("jump" : Str) ↔ (w = ("do" : Str) ∨ w = ("undo" : Str) ∨ w = ("fork" : Str)) := by
          constructor
          · intro z
            rcases hw with q | q | q | q
            · exact .inl q
            · exact .inr (.inl q)
            · exact .inr (.inr q)
            · exact absurd q z
          · rintro (rfl | rfl | rfl) <;> decide
        by_cases hf : w = ("do" : Str) ∨ w = ("undo" : Str) ∨ w = ("fork" : Str)
        · rw [decide_eq_true hf, if_pos rfl]
          by_cases hp : p = m - 1
          · rw [if_pos ⟨hj.mpr hf, hp⟩] at h
            rw [if_pos hp]
            exact h
          · rw [if_neg (fun z => hp z.2)] at h
            rw [if_neg hp]
            exact h
        · rw [decide_eq_false hf, if_neg (by decide)]
          rw [if_neg (fun z => hf (hj.mp z.1))] at h
          exact h
      have mid : (w ≠ ("do" : Str) ∧ w ≠ ("undo" : Str) ∨ isNameB (nms b) a = true) → q_step_wrong_s2 (Ends0 R) [.da (.tuple (b.map cD)), .da (.tuple [.str w, a]), .da (.int p), .da (.int m), .da (.str w)] := by
        intro hn
        rw [if_neg (c := (w = ("do" : Str) ∨ w = ("undo" : Str)) ∧ isNameB (nms b) a = false) (by
          rintro ⟨z1, z2⟩
          rcases hn with ⟨n1, n2⟩ | n
          · exact z1.elim n1 n2
          · rw [n] at z2; cases z2)] at h
        revert last
        walk_at "ev"
        intro last
        refine ⟨rfl, ?_⟩
        rw [in_fork]
        by_cases hf : w = ("fork" : Str) ∨ w = ("jump" : Str)
        · rw [decide_eq_true hf, if_pos rfl]
          refine ⟨a, rfl, ?_⟩
          revert last
          unfold isNumB at h
          unfold natB
          cases a with
          | int i =>
            walk_at "ev"
            intro last
            by_cases g0 : 0 ≤ i
            · rw [if_pos g0]
              by_cases g1 : i < m
              · rw [if_neg (by rintro ⟨_, z⟩; dsimp only at z; rw [decide_eq_true g0, decide_eq_true g1] at z; cases z)] at h
                rw [if_neg (fun z => z g1)]
                exact last h
              · rw [if_pos ⟨hf, by dsimp only; rw [decide_eq_false g1, Bool.and_false]⟩] at h
                rw [if_pos g1]
                exact h
            · rw [if_pos ⟨hf, by dsimp only; rw [decide_eq_false g0]; rfl⟩] at h
              rw [if_neg g0]
              exact h
          | _ =>
            walk_at "ev"
            intro last
            rw [if_pos ⟨hf, rfl⟩] at h
            exact h
        · rw [decide_eq_false hf, if_neg (by decide)]
          rw [if_neg (fun z => hf z.1)] at h
          exact last h
      by_cases hd : w = ("do" : Str) ∨ w = ("undo" : Str)
      · rw [decide_eq_true hd, if_pos rfl]
        refine ⟨a, at1 _ _ _, ?_⟩
        cases a with
        | str x =>
          refine ⟨true, rfl, ?_⟩
          rw [if_pos rfl]
          refine ⟨_, at1 _ _ _, b, rfl, by omega, ?_⟩
          revert mid
          walk_at "ev"
          intro mid
          refine ⟨flat_strs _, ?_⟩
          rw [in_strs]
          by_cases hx : x ∈ nms b
          · rw [decide_eq_true hx, if_neg (by decide)]
            exact mid (.inr (decide_eq_true hx))
          · rw [decide_eq_false hx, if_pos rfl]
            rw [if_pos ⟨hd, decide_eq_false hx⟩] at h
            exact h
        | dict kv =>
          refine ⟨false, kitd3, ?_⟩
          rw [if_pos ⟨hd, rfl⟩] at h
          exact h
        | _ =>
          refine ⟨false, rfl, ?_⟩
          rw [if_pos ⟨hd, rfl⟩] at h
          exact h
      · rw [decide_eq_false hd, if_neg (by decide)]
        have := mid (.inl ⟨fun z => hd (.inl z), fun z => hd (.inr z)⟩)
        revert this
        walk_at "ev"
        exact id
  · rw [e] at h
    rw [e, if_neg (by decide)]
    refine ⟨_, rfl, ?_⟩
    dsimp only
    match rest, h with
    | [], h =>
      rw [if_neg (by intro z; exact z rfl)] at h
      rw [if_neg (by intro z; exact z rfl)]
      refine ⟨rfl, ?_⟩
      rw [if_neg (by decide)]
      refine ⟨rfl, ?_⟩
      rw [if_neg (by decide)]
      refine ⟨rfl, ?_⟩
      rw [if_neg (by decide)]
      exact h
    | _ :: _, h =>
      rw [if_pos (by intro z; have := Option.some.inj z; simp only [List.length_cons] at this; omega)] at h
      rw [if_pos (by simp only [List.length_cons]; omega)]
      exact h
  · rw [e] at h
    rw [if_pos (by intro z; cases z)] at h
    rw [e, if_pos (by rfl)]
    exact h
theorem ans_tup (ns : List Str) (ds : List D) : ans ns (.tuple ds) = if ds = [] ∨ ds.all stepB = false then Ans.ref (-1) "shape" else match firstW ns ds.length 0 ds with
    | some (p, w) => .ref p w
    | none => .told ds.length := rfl
theorem step_is {d : D} (h : stepB d = true) : ∃ w rest, d = .tuple (.str w :: rest) := by
  unfold stepB at h
  split at h
  · exact ⟨_, _, rfl⟩
  · cases h
theorem bools_step (ds : List D) : boolsD (ds.map fun d => PyData.bool (stepB d)) = some (ds.map stepB) := by
  induction ds with
  | nil => rfl
  | cons d ds ih =>
    show (boolsD (ds.map fun d => PyData.bool (stepB d))).map (fun r => stepB d :: r) = _
    rw [ih]
    rfl
theorem all_step (ds : List D) : (ds.map stepB).all id = ds.all stepB := by
  rw [List.all_map]
  rfl
theorem len_check_code : ∀ gs R, pp_check_code gs R → gs.length = 2 := by
  rintro gs R ⟨b, d, rfl, _⟩; rfl
theorem spec_check_code : ∀ gs R, pp_check_code gs R → q_check_code (Ends0 R) (startD 5 gs) := by
  rintro gs R ⟨b, d, rfl, hb, hl, h⟩
  have big : 1000 ≤ sizeLine := by decide
  unfold q_check_code
  cases d with
  | dict kv =>
    walk_at "ev"
    exact ⟨_, kitd, h⟩
  | tuple ds =>
    walk_at "ev"
    by_cases h0 : ds = []
    · subst h0
      exact h
    · have hl : ds.length ≤ 1000 := hl
      have hne : ds.length ≠ 0 := fun z => h0 (List.length_eq_zero_iff.mp z)
      rw [if_neg (by omega)]
      rw [← List.map_id ds]
      refine lc_map id (fun _ => true) (fun d => PyData.bool (stepB d)) ds (by omega) ?_ fun c hc acc G ha hG => ?_
      · rw [filter_true, bools_step]
        refine ⟨_, rfl, ?_⟩
        rw [ans_tup] at h
        rw [all_step]
        by_cases hs : ds.all stepB = false
        · rw [if_pos hs]
          rw [if_pos (.inr hs)] at h
          exact h
        · rw [if_neg hs]
          rw [if_neg (fun z => z.elim h0 hs)] at h
          rw [List.map_id]
          refine loop_of (fun ds' ρ => ∃ (k : Int) (cs : List D) (x2 x3 x4 : Sl), ds' = enumD k cs ∧ ρ = [.da (bD b), .da (.tuple ds), x2, x3, x4] ∧ cs.all stepB = true ∧ firstW (nms b) ds.length 0 ds = firstW (nms b) ds.length k cs) ?_ ?_ _ _ ⟨0, ds, _, _, _, rfl, rfl, by simpa using hs, rfl⟩
          · rintro ρ ⟨k, cs, x2, x3, x4, hd, rfl, ha, e⟩
            cases cs with
            | cons c cs => cases hd
            | nil =>
              simp only [thn_nx, q_check_code_k1_e]
              walk_at "ev"
              rw [show firstW (nms b) ds.length k [] = none from rfl] at e
              rw [e] at h
              exact h
          · rintro d ds' ρ ⟨k, cs, x2, x3, x4, hd, rfl, ha, e⟩ ih
            cases cs with
            | nil => cases hd
            | cons c cs =>
              cases hd
              rw [List.all_cons, Bool.and_eq_true] at ha
              obtain ⟨w, rest, rfl⟩ := step_is ha.1
              simp only [q_check_code_b1_e]
              walk_at "ev"
              refine ⟨b, w, rest, k, _, rfl, by omega, ?_⟩
              have e : firstW (nms b) ds.length 0 ds = match wrongW (nms b) w rest k ds.length with
                | some w => some (k, w)
                | none => firstW (nms b) ds.length (k + 1) cs := e
              cases hw : wrongW (nms b) w rest k ds.length with
              | none =>
                rw [hw] at e
                unfold optS
                walk_at "ev"
                exact ih _ ⟨k + 1, cs, _, _, _, rfl, rfl, ha.2, e⟩
              | some u =>
                rw [hw] at e
                rw [e] at h
                unfold optS
                walk_at "ev"
                exact h
      · rw [if_pos rfl] at hG
        walk_at "ev"
        exact ⟨_, rfl, rfl, ha, hG⟩
  | _ =>
    walk_at "ev"
    exact h
theorem len__law_is_number : ∀ gs R, pp__law_is_number gs R → gs.length = 2 := by
  rintro gs R ⟨d, n, rfl, _⟩; rfl
theorem spec__law_is_number : ∀ gs R, pp__law_is_number gs R → q__law_is_number (Ends0 R) (startD 2 gs) := by
  rintro gs R ⟨d, n, rfl, h⟩
  unfold q__law_is_number
  unfold isNumB at h
  cases d with
  | dict kv =>
    walk_at "ev"
    exact ⟨_, kitd2, h⟩
  | int i =>
    walk_at "ev"
    by_cases g0 : 0 ≤ i
    · rw [if_pos g0]
      dsimp only at h
      rw [decide_eq_true g0, Bool.true_and] at h
      exact h
    · rw [if_neg g0]
      dsimp only at h
      rw [decide_eq_false g0, Bool.false_and] at h
      exact h
  | _ =>
    walk_at "ev"
    exact h
theorem len__law_wrong : ∀ gs R, pp__law_wrong gs R → gs.length = 3 := by
  rintro gs R ⟨b, ds, k, w, rest, rfl, _⟩; rfl
abbrev szKv : Kvs := [(.inr "do", .int 2), (.inr "undo", .int 2), (.inr "fork", .int 2), (.inr "jump", .int 2), (.inr "stop", .int 1)]
theorem kv_at (w : Str) : getK szKv (.inr w) = (szW w).map PyData.int := by
  have step : ∀ (x : Str) (d : D) (r : Kvs), getK ((.inr x, d) :: r) (.inr w) = if w = x then some d else getK r (.inr w) := by
    intro x d r
    show (if (Sum.inr w : L2.Key) = Sum.inr x then some d else getK r (.inr w)) = _
    by_cases q : w = x
    · rw [if_pos q, if_pos (by rw [q])]
    · rw [if_neg q, if_neg (fun z => q (Sum.inr.inj z))]
  unfold szW szKv
  rw [step, step, step, step, step, show getK [] (.inr w) = none from rfl]
  by_cases h1 : w = ("do" : Str)
  · rw [if_pos h1, if_pos h1]; rfl
  rw [if_neg h1, if_neg h1]
  by_cases h2 : w = ("undo" : Str)
  · rw [if_pos h2, if_pos h2]; rfl
  rw [if_neg h2, if_neg h2]
  by_cases h3 : w = ("fork" : Str)
  · rw [if_pos h3, if_pos h3]; rfl
  rw [if_neg h3, if_neg h3]
  by_cases h4 : w = ("jump" : Str)
  · rw [if_pos h4, if_pos h4]; rfl
  rw [if_neg h4, if_neg h4]
  by_cases h5 : w = ("stop" : Str)
  · rw [if_pos h5, if_pos h5]; rfl
  rw [if_neg h5, if_neg h5]; rfl
theorem atI_nat {α : Type} {xs : List α} {k : Nat} {x : α} (h : xs[k]? = some x) : atI xs (k : Int) = some x := by
  have l := (List.getElem?_eq_some_iff.mp h).1
  unfold atI ixN
  rw [if_pos (by omega), if_pos (by omega)]
  exact h
theorem wrong_ne {ns : List Str} {w : Str} {rest : List D} {place many : Int} {u : Str} (h : wrongW ns w rest place many = some u) : ¬ u = ("" : Str) := by
  unfold wrongW at h
  have g : ∀ v : Str, v ≠ ("" : Str) → some v = some u → ¬ u = ("" : Str) := fun v hv e => by cases e; exact hv
  split at h
  · exact g _ (by decide) h
  · split at h
    · cases h
    · split at h
      · exact g _ (by decide) h
      · split at h
        · exact g _ (by decide) h
        · split at h
          · exact g _ (by decide) h
          · cases h
theorem spec__law_wrong : ∀ gs R, pp__law_wrong gs R → q__law_wrong (Ends0 R) (startD 7 gs) := by
  rintro gs R ⟨b, ds, k, w, rest, rfl, hb, hk, h⟩
  have big : 1000 ≤ sizeLine := by decide
  unfold q__law_wrong
  refine ⟨trivial, _, atI_nat hk, ?_⟩
  show q__law_wrong_s4 (Ends0 R) [.da (bD b), .da (.tuple ds), .da (.int k), .da (.tuple (.str w :: rest)), .un, .un, .un]
  have key : ∀ kvs : Kvs, (∀ w, getK kvs (.inr w) = (szW w).map PyData.int) → q__law_wrong_s3 (Ends0 R) [.da (bD b), .da (.tuple ds), .da (.int k), .da (.tuple (.str w :: rest)), .od kvs, .un, .un] := by
    intro kvs hkv
    walk_at "ev"
    rw [hkv]
    unfold wrongW at h
    rcases szW_cases w with ⟨e, hw⟩ | ⟨e, rfl⟩ | ⟨e, hw⟩
    · rw [e] at h
      rw [e, if_neg (by decide)]
      refine ⟨_, rfl, ?_⟩
      dsimp only
      match rest, h with
      | [], h =>
        rw [if_pos (by decide)]
        exact h
      | _ :: _ :: _, h =>
        rw [if_pos (by intro z; have := Option.some.inj z; simp only [List.length_cons] at this; omega)] at h
        rw [if_pos (by simp only [List.length_cons]; omega)]
        exact h
      | [a], h =>
        rw [if_neg (by intro z; exact z rfl)] at h
        have h : R (.da (.str ((if (w = ("do" : Str) ∨ w = ("undo" : Str)) ∧ isNameB (nms b) a = false then some "name" else if (w = ("fork" : Str) ∨ w = ("jump" : Str)) ∧ isNumB a ds.length = false then some "place" else if w ≠ ("jump" : Str) ∧ (k : Int) = ds.length - 1 then some "place" else none : Option Str).getD ""))) := h
        have hstop : ¬ w = ("stop" : Str) := by rcases hw with rfl | rfl | rfl | rfl <;> decide
        rw [if_neg (by intro z; exact z rfl), if_neg hstop]
        have last : R (.da (.str ((if w ≠ ("jump" : Str) ∧ (k : Int) = ds.length - 1 then some "place" else none : Option Str).getD ""))) → q__law_wrong_k1 (Ends0 R) [.da (bD b), .da (.tuple ds), .da (.int k), .da (.tuple [.str w, a]), .od kvs, .un, .un] := by
          intro h
          simp only [q__law_wrong_k1_e]
          walk_at "ev"
          by_cases hj : w = ("jump" : Str)
          · rw [if_neg (fun z => z.1 hj)] at h
            rw [if_neg (fun z => z hj)]
            exact h
          · rw [if_pos hj]
            by_cases hp : (k : Int) = ds.length - 1
            · rw [if_pos ⟨hj, hp⟩] at h
              rw [if_pos hp]
              exact h
            · rw [if_neg (fun z => hp z.2)] at h
              rw [if_neg hp]
              exact h
        refine ⟨rfl, ?_⟩
        rw [in_do]
        by_cases hd : w = ("do" : Str) ∨ w = ("undo" : Str)
        · have hf : ¬ (w = ("fork" : Str) ∨ w = ("jump" : Str)) := by rcases hd with rfl | rfl <;> decide
          rw [decide_eq_true hd, if_pos rfl]
          refine ⟨a, at1 _ _ _, ?_⟩
          cases a with
          | str x =>
            refine ⟨true, rfl, ?_⟩
            rw [if_neg (by decide)]
            refine ⟨_, at1 _ _ _, _, rfl, ?_⟩
            refine lc_map cD (fun _ => true) (fun c => PyData.str c.1) b (by omega) ?_ fun c hc acc G ha hG => ?_
            · rw [filter_true, show (b.map fun c => PyData.str c.1) = (nms b).map .str from (List.map_map ..).symm]
              refine ⟨rfl, flat_strs _, ?_⟩
              rw [in_strs]
              by_cases hx : x ∈ nms b
              · rw [decide_eq_true hx, if_neg (by decide)]
                rw [if_neg (by rintro ⟨_, z⟩; rw [show isNameB (nms b) (.str x) = true from decide_eq_true hx] at z; cases z), if_neg (fun z => hf z.1)] at h
                exact last h
              · rw [decide_eq_false hx, if_pos rfl]
                rw [if_pos ⟨hd, decide_eq_false hx⟩] at h
                exact h
            · rw [if_pos rfl] at hG
              unfold cD
              walk_at "ev"
              exact ⟨ha, hG⟩
          | dict kv =>
            refine ⟨false, kitd3, ?_⟩
            rw [if_pos ⟨hd, rfl⟩] at h
            exact h
          | _ =>
            refine ⟨false, rfl, ?_⟩
            rw [if_pos ⟨hd, rfl⟩] at h
            exact h
        · have hf : w = ("fork" : Str) ∨ w = ("jump" : Str) := by
            rcases hw with q | q | q | q
            · exact absurd (.inl q) hd
            · exact absurd (.inr q) hd
            · exact .inl q
            · exact .inr q
          rw [decide_eq_false hd, if_neg (by decide)]
          rw [if_neg (fun z => hd z.1)] at h
          refine ⟨a, at1 _ _ _, a, _, rfl, ?_⟩
          walk_at "ev"
          by_cases hn : isNumB a ds.length = true
          · rw [if_neg (by rintro ⟨_, z⟩; rw [hn] at z; cases z)] at h
            rw [hn, if_neg (by decide)]
            exact last h
          · have hn : isNumB a ds.length = false := by simpa using hn
            rw [if_pos ⟨hf, hn⟩] at h
            rw [hn, if_pos rfl]
            exact h
    · rw [e] at h
      rw [e, if_neg (by decide)]
      refine ⟨_, rfl, ?_⟩
      dsimp only
      match rest, h with
      | [], h =>
        rw [if_neg (by intro z; exact z rfl)] at h
        rw [if_neg (by intro z; exact z rfl), if_pos rfl]
        exact h
      | _ :: _, h =>
        rw [if_pos (by intro z; have := Option.some.inj z; simp only [List.length_cons] at this; omega)] at h
        rw [if_pos (by simp only [List.length_cons]; omega)]
        exact h
    · rw [e] at h
      rw [if_pos (by intro z; cases z)] at h
      rw [e, if_pos (by rfl)]
      exact h
  exact key szKv kv_at
theorem len__law_due : ∀ gs R, pp__law_due gs R → gs.length = 2 := by
  rintro gs R ⟨b, d, rfl, _⟩; rfl
theorem spec__law_due : ∀ gs R, pp__law_due gs R → q__law_due (Ends0 R) (startD 5 gs) := by
  rintro gs R ⟨b, d, rfl, hb, hl, h⟩
  have big : 1000 ≤ sizeLine := by decide
  unfold q__law_due
  cases d with
  | dict kv =>
    walk_at "ev"
    exact ⟨_, kitd, h⟩
  | tuple ds =>
    walk_at "ev"
    by_cases h0 : ds = []
    · subst h0
      exact h
    · have hl : ds.length ≤ 1000 := hl
      have hne : ds.length ≠ 0 := fun z => h0 (List.length_eq_zero_iff.mp z)
      rw [if_neg (by omega)]
      rw [ans_tup] at h
      refine loop_of (fun cs ρ => ∃ x2, ρ = [.da (bD b), .da (.tuple ds), x2, .un, .un] ∧ ds.all stepB = cs.all stepB) ?_ ?_ _ _ ⟨_, rfl, rfl⟩
      · rintro ρ ⟨x2, rfl, hs⟩
        have hs : ds.all stepB = true := hs
        rw [if_neg (fun z => z.elim h0 (fun z => by rw [hs] at z; cases z))] at h
        simp only [thn_nx, q__law_due_k2_e]
        walk_at "ev"
        refine ⟨by omega, by omega, ?_⟩
        refine range_of (fun lo m ρ => ∃ (k : Nat) (x3 x4 : Sl), lo = (k : Int) ∧ k + m = ds.length ∧ ρ = [.da (bD b), .da (.tuple ds), x2, x3, x4] ∧ firstW (nms b) ds.length 0 ds = firstW (nms b) ds.length k (ds.drop k)) ?_ ?_ _ _ _ ?_
        · rintro lo ρ ⟨k, x3, x4, rfl, hk, rfl, e⟩
          rw [List.drop_of_length_le (by omega), show firstW (nms b) ds.length k [] = none from rfl] at e
          rw [e] at h
          simp only [thn_nx, q__law_due_k1_e]
          walk_at "ev"
          exact h
        · rintro lo m ρ ⟨k, x3, x4, rfl, hk, rfl, e⟩ ih
          have hlt : k < ds.length := by omega
          obtain ⟨w, rest, hw⟩ := step_is (List.all_eq_true.mp hs ds[k] (List.getElem_mem hlt))
          have hget : ds[k]? = some (.tuple (.str w :: rest)) := by rw [List.getElem?_eq_getElem hlt, hw]
          rw [List.drop_eq_getElem_cons hlt, hw] at e
          simp only [q__law_due_b1_e]
          walk_at "ev"
          refine ⟨b, ds, k, w, rest, rfl, by omega, hget, ?_⟩
          walk_at "ev"
          have e : firstW (nms b) ds.length 0 ds = match wrongW (nms b) w rest k ds.length with
            | some w => some ((k : Int), w)
            | none => firstW (nms b) ds.length (k + 1) (ds.drop (k + 1)) := e
          cases hw2 : wrongW (nms b) w rest k ds.length with
          | none =>
            rw [hw2] at e
            rw [if_neg (by decide)]
            exact ih _ ⟨k + 1, _, _, by omega, by omega, rfl, by rw [e]; rfl⟩
          | some u =>
            rw [hw2] at e
            rw [e] at h
            rw [show (some u).getD (Str.ofString "") = u from rfl, if_pos (wrong_ne hw2)]
            exact h
        · exact ⟨0, _, _, rfl, by simp, rfl, rfl⟩
      · rintro d cs ρ ⟨x2, rfl, hs⟩ ih
        rw [List.all_cons] at hs
        simp only [q__law_due_b2_e]
        have no : stepB d = false → R (.da (ansD (.ref (-1) "shape"))) := fun z => by
          rw [z] at hs
          rw [if_pos (.inr hs)] at h
          exact h
        have yes : stepB d = true → loopD (qgName 2) q__law_due_b2 ((Ends0 R).thn (q__law_due_k2 (Ends0 R))) cs [.da (bD b), .da (.tuple ds), .da d, .un, .un] := fun z => by
          rw [z, Bool.true_and] at hs
          exact ih _ ⟨_, rfl, hs⟩
        cases d with
        | dict kv =>
          walk_at "ev"
          exact ⟨_, kitd, no rfl⟩
        | tuple es =>
          cases es with
          | nil =>
            walk_at "ev"
            exact no rfl
          | cons a r =>
            cases a with
            | dict kv =>
              walk_at "ev"
              rw [if_neg (by omega)]
              exact ⟨_, kitd3, no rfl⟩
            | str x =>
              walk_at "ev"
              rw [if_neg (by omega)]
              exact yes rfl
            | _ =>
              walk_at "ev"
              rw [if_neg (by omega)]
              exact no rfl
        | _ =>
          walk_at "ev"
          exact no rfl
  | _ =>
    walk_at "ev"
    exact h
theorem len__law_heard : ∀ gs R, pp__law_heard gs R → gs.length = 3 := by
  rintro gs R ⟨b, d, f, rfl, _⟩; rfl
theorem spec__law_heard : ∀ gs R, pp__law_heard gs R → q__law_heard (Ends0 R) (startD 4 gs) := by
  rintro gs R ⟨b, d, f, rfl, hb, hl, h⟩
  unfold q__law_heard
  walk_at "ev"
  cases f
  all_goals
    walk_at "ev"
    refine ⟨b, d, rfl, hb, hl, ?_⟩
    generalize ans (nms b) d = a at *
    cases a
    · unfold ansR ansD at *
      walk_at "ev"
      exact h
    · unfold ansR ansD at *
      walk_at "ev"
      exact ⟨rfl, by decide, h⟩
theorem len__law_asked : ∀ gs R, pp__law_asked gs R → gs.length = 3 := by
  rintro gs R ⟨b, d, f, rfl, _⟩; rfl
theorem spec__law_asked : ∀ gs R, pp__law_asked gs R → q__law_asked (Ends0 R) (startD 5 gs) := by
  rintro gs R ⟨b, d, f, rfl, hb, hl, h⟩
  unfold q__law_asked
  walk_at "ev"
  refine ⟨b, d, f, rfl, hb, hl, ?_⟩
  generalize ha : ans (nms b) d = a
  cases a
  · unfold ansD
    walk_at "ev"
    refine ⟨b, d, rfl, hb, hl, ?_⟩
    rw [ha]
    unfold ansD
    walk_at "ev"
    rw [if_pos (by decide)]
    exact h
  · unfold ansD
    walk_at "ev"
    refine ⟨b, d, rfl, hb, hl, ?_⟩
    rw [ha]
    unfold ansD
    walk_at "ev"
    rw [if_neg (by decide)]
    exact h
theorem pw2000 : CPow 1 2000 := by
  unfold CPow
  decide
theorem len__law_mint : ∀ gs R, pp__law_mint gs R → gs.length = 1 := by
  rintro gs R ⟨ns, rfl, _⟩; rfl
theorem spec__law_mint : ∀ gs R, pp__law_mint gs R → q__law_mint R (startD 3 gs) := by
  rintro gs R ⟨ns, rfl, hl, h⟩
  unfold q__law_mint
  walk_at "ev"
  obtain ⟨u1, u2⟩ := cutD_in (ds := ns.map PyData.int) (a := none) (b := some 24)
  refine loop_of (fun ds ρ => ∃ (i : Int) (x0 x : Sl), ρ = [x0, .da (.int i), x] ∧ ∀ d ∈ ds, ∃ i, d = .int i) ?_ ?_ _ _ ⟨15, _, _, rfl, ?_⟩
  · rintro ρ ⟨i, x0, x, rfl, _⟩
    walk_at "ev"
    exact ⟨by decide, h _ ⟨_, _, _, rfl⟩⟩
  · rintro d ds ρ ⟨i, x0, x, rfl, hd⟩ ih
    obtain ⟨j, rfl⟩ := hd d (List.mem_cons_self ..)
    simp only [q__law_mint_b1_e]
    walk_at "ev"
    exact ⟨mulR' (by decide) (by decide), pw2000, Int.mul_pos (by decide) (Int.pow_pos (by decide)), ih _ ⟨_, _, _, rfl, fun d h => hd d (List.mem_cons_of_mem _ h)⟩⟩
  · intro d hd
    obtain ⟨i, _, rfl⟩ := List.mem_map.mp (u2 d hd)
    exact ⟨i, rfl⟩
theorem len__law_press : ∀ gs R, pp__law_press gs R → ∃ ds : List D, gs = .j :: ds.map .d ∧ ds.length = ["many"].length := by
  rintro gs R ⟨many, rfl, _⟩
  exact ⟨[.int many], rfl, rfl⟩
theorem spec__law_press : ∀ (ds : List D) R, pp__law_press (.j :: ds.map .d) R → ∀ c, good c → q__law_press ⟨fun _ => False, fun r ρ => ∃ d c', r = .da d ∧ R (.da d) ∧ good c' ∧ ρ[0]? = some (.jo c'), fun _ => False, fun _ => False⟩ (.jo c :: (ds.map .da ++ List.replicate (3 - ds.length - 1) .un)) := by
  rintro ds R ⟨many, hg, h1, h2, h⟩ c ⟨b0, b1, b2, rfl⟩
  match ds, hg with
  | [_], hg =>
    cases hg
    have fin : ∀ x, R (.da (.int (x % many))) := fun x => h _ (Int.emod_nonneg _ (by omega)) (Int.emod_lt_of_pos _ (by omega))
    have gd : ∀ b0 b1 b2 : Int, good ⟨none, [.d (.int b0), .d (.int b1), .d (.int b2)]⟩ := fun b0 b1 b2 => ⟨b0, b1, b2, rfl⟩
    have dv : ∀ x, CDivW x many := fun x => divS (by omega) (by omega)
    unfold q__law_press
    walk_at "ev"
    have p0 := Int.emod_nonneg (b2 * 69621 + (b1 + 1) * 14009 + 15) (show (2147483647 : Int) ≠ 0 by decide)
    split
    · exact ⟨mulR' (by decide) (by decide), mulR' (by decide) (by decide), by decide, divS (by decide) (by decide), by omega, fin _, gd _ _ _⟩
    · exact ⟨mulR' (by decide) (by decide), by omega, dv _, fin _, gd _ _ _⟩
theorem len__law_any : ∀ gs R, pp__law_any gs R → gs.length = 2 := by
  rintro gs R ⟨ds, hg, _⟩
  rcases hg with rfl | rfl <;> rfl
theorem spec__law_any : ∀ gs R, pp__law_any gs R → q__law_any (Ends0 R) (startD 2 gs) := by
  rintro gs R ⟨ds, hg, hn, hl, h⟩
  have hpos : 0 < ds.length := by
    cases ds with
    | nil => exact absurd rfl hn
    | cons _ _ => simp
  unfold q__law_any
  rcases hg with rfl | rfl
  all_goals
    walk_at "ev"
    refine ⟨_, rfl, by omega, by omega, fun r h0 h1 => ?_⟩
    walk_at "ev"
    obtain ⟨x, hx, hm, _⟩ := atI_of h0 h1
    exact ⟨x, hx, h x hm⟩
theorem at_m1 {α : Type} (L : List α) (x : α) : atI (L ++ [x]) (-1) = some x := by
  unfold atI ixN
  rw [if_neg (by omega), if_pos (by simp only [List.length_append, List.length_singleton]; omega)]
  show (L ++ [x])[(-1 + ((L ++ [x]).length : Int)).toNat]? = _
  rw [show (-1 + ((L ++ [x]).length : Int)).toNat = L.length by simp only [List.length_append, List.length_singleton]; omega]
  simp
theorem at_m2 {α : Type} (L : List α) (x y : α) : atI (L ++ [x] ++ [y]) (-2) = some x := by
  unfold atI ixN
  rw [if_neg (by omega), if_pos (by simp only [List.length_append, List.length_singleton]; omega)]
  show (L ++ [x] ++ [y])[(-2 + ((L ++ [x] ++ [y]).length : Int)).toNat]? = _
  rw [show (-2 + ((L ++ [x] ++ [y]).length : Int)).toNat = L.length by simp only [List.length_append, List.length_singleton]; omega]
  simp
theorem last_two {α : Type} {ws : List α} (h : 1 < ws.length) : ∃ L x y, ws = L ++ [x] ++ [y] := by
  rcases List.eq_nil_or_concat ws with rfl | ⟨M, y, rfl⟩
  · simp at h
  · rcases List.eq_nil_or_concat M with rfl | ⟨L, x, rfl⟩
    · simp at h
    · exact ⟨L, x, y, by simp⟩
theorem len__law_letters : ∀ gs R, pp__law_letters gs R → gs.length = 1 := by
  rintro gs R ⟨ms, rfl, _⟩; rfl
theorem letters_in (n : Nat) (hn : n ≤ 100) (m : Str) (t : D) : ∀ (E : EndD) (cs : List Nat) (ws : List Str) (x3 x4 x5 : Sl), ws.length + cs.length ≤ n → (∀ (ws : List Str) (x3 x4 x5 : Sl), ws.length ≤ n → E.nx [.da t, .ow (ws.map .str), .da (.str m), x3, x4, x5]) →
    loopD (qgName 3) q__law_letters_b2 E (cs.map sgn) [.da t, .ow (ws.map .str), .da (.str m), x3, x4, x5] := by
  intro E cs ws x3 x4 x5 hw hE
  have big : 1000 ≤ sizeLine := by decide
  refine loop_of (fun ds ρ => ∃ (cs : List Nat) (ws : List Str) (x3 x4 x5 : Sl), ds = cs.map sgn ∧ ρ = [.da t, .ow (ws.map .str), .da (.str m), x3, x4, x5] ∧ ws.length + cs.length ≤ n) ?_ ?_ _ _ ⟨cs, ws, _, _, _, rfl, rfl, hw⟩
  · rintro ρ ⟨cs, ws, x3, x4, x5, hd, rfl, hw⟩
    exact hE _ _ _ _ (by omega)
  · rintro d ds ρ ⟨cs, ws, x3, x4, x5, hd, rfl, hw⟩ ih2
    cases cs with
    | nil => cases hd
    | cons c cs =>
      cases hd
      rw [List.length_cons] at hw
      simp only [q__law_letters_b2_e]
      walk_at "ev"
      refine ⟨by rw [List.length_map]; omega, ?_⟩
      refine while_of (fun k ρ => ∃ (ws : List Str) (x4 x5 : Sl), k = ws.length ∧ ρ = [.da t, .ow (ws.map .str), .da (.str m), .da (sgn c), x4, x5] ∧ ws.length + cs.length ≤ n) _ ⟨ws ++ [(⟨#[c]⟩ : Str)], _, _, rfl, by rw [List.map_append]; rfl, by rw [List.length_append, List.length_singleton]; omega⟩ ?_
      rintro k ρ ⟨ws, x4, x5, rfl, rfl, hb⟩
      walk_at "ev"
      by_cases hlen : 1 < ws.length
      · obtain ⟨L, x, y, rfl⟩ := last_two hlen
        simp only [List.length_append, List.length_singleton] at hb
        rw [List.map_append, List.map_append, List.map_singleton, List.map_singleton, at_m1, at_m2]
        rw [if_pos (by simp only [List.length_append, List.length_singleton, List.length_map]; omega)]
        refine ⟨_, rfl, ?_⟩
        dsimp only
        refine ⟨_, rfl, ?_⟩
        dsimp only
        split
        · simp only [q__law_letters_b1_e]
          walk_at "ev"
          have fin : ∃ m', m' < (L ++ [x] ++ [y]).length ∧ ∃ ws : List Str, m' = ws.length ∧ L.map PyData.str = ws.map .str ∧ ws.length + cs.length ≤ n := ⟨L.length, by simp, L, rfl, rfl, by omega⟩
          have fin2 : ∀ z : Str, (L.map PyData.str).length < sizeLine ∧ ∃ m', m' < (L ++ [x] ++ [y]).length ∧ ∃ ws : List Str, m' = ws.length ∧ L.map PyData.str ++ [.str z] = ws.map .str ∧ ws.length + cs.length ≤ n := fun z => ⟨by rw [List.length_map]; omega, (L ++ [z]).length, by simp, L ++ [z], rfl, by rw [List.map_append]; rfl, by rw [List.length_append, List.length_singleton]; omega⟩
          split
          · split
            · split
              · exact fin2 _
              · exact fin2 _
            · exact fin
          · exact fin
        · exact ih2 _ ⟨cs, L ++ [x] ++ [y], _, _, _, rfl, by rw [List.map_append, List.map_append]; rfl, by simp only [List.length_append, List.length_singleton]; omega⟩
      · rw [List.length_map, if_neg (by omega)]
        exact ih2 _ ⟨cs, ws, _, _, _, rfl, rfl, by omega⟩
theorem spec__law_letters : ∀ gs R, pp__law_letters gs R → q__law_letters (Ends0 R) (startD 6 gs) := by
  rintro gs R ⟨ms, rfl, hl, hm, h⟩
  have big : 1000 ≤ sizeLine := by decide
  unfold q__law_letters
  walk_at "ev"
  refine loop_of (fun ds ρ => ∃ (us ws : List Str) (x2 x3 x4 x5 : Sl), ds = us.map .str ∧ ρ = [.da (tS ms), .ow (ws.map .str), x2, x3, x4, x5] ∧ ws.length + 2 * us.length ≤ 6 ∧ ∀ m ∈ us, m = ("turn" : Str) ∨ m = ("twist" : Str) ∨ m = ("back" : Str)) ?_ ?_ _ _ ⟨ms, [], _, _, _, _, rfl, rfl, by simp; omega, hm⟩
  · rintro ρ ⟨us, ws, x2, x3, x4, x5, hd, rfl, hw, hu⟩
    simp only [thn_nx, q__law_letters_k1_e]
    walk_at "ev"
    exact h _
  · rintro d ds ρ ⟨us, ws, x2, x3, x4, x5, hd, rfl, hw, hu⟩ ih
    cases us with
    | nil => cases hd
    | cons m us =>
      cases hd
      rw [List.length_cons] at hw
      have out : ∀ (ws : List Str) (x3 x4 x5 : Sl), ws.length ≤ 6 - 2 * us.length → loopD (qgName 2) q__law_letters_b3 ((Ends0 R).thn (q__law_letters_k1 (Ends0 R))) (us.map .str) [.da (tS ms), .ow (ws.map .str), .da (.str m), x3, x4, x5] := fun ws x3 x4 x5 h => ih _ ⟨us, ws, _, _, _, _, rfl, rfl, by omega, fun m hm => hu m (List.mem_cons_of_mem _ hm)⟩
      simp only [q__law_letters_b3_e]
      rcases hu m (List.mem_cons_self ..) with rfl | rfl | rfl
      · walk_at "ev"
        refine letters_in (6 - 2 * us.length) (by omega) _ _ _ [115] ws _ _ _ ?_ ?_
        · simp only [List.length_cons, List.length_nil]; omega
        · exact out
      · walk_at "ev"
        rw [if_neg (by decide)]
        refine ⟨_, rfl, rfl, _, rfl, ?_⟩
        refine letters_in (6 - 2 * us.length) (by omega) _ _ _ [119, 115] ws _ _ _ ?_ ?_
        · simp only [List.length_cons, List.length_nil]; omega
        · exact out
      · walk_at "ev"
        rw [if_neg (by decide), if_neg (by decide)]
        refine ⟨_, rfl, rfl, _, rfl, ?_⟩
        refine letters_in (6 - 2 * us.length) (by omega) _ _ _ [115, 118] ws _ _ _ ?_ ?_
        · simp only [List.length_cons, List.length_nil]; omega
        · exact out
theorem len__law_nodes : ∀ gs R, pp__law_nodes gs R → gs.length = 2 := by
  rintro gs R ⟨b, cs, rfl, _⟩; rfl
theorem spec__law_nodes : ∀ gs R, pp__law_nodes gs R → q__law_nodes (Ends0 R) (startD 6 gs) := by
  rintro gs R ⟨b, cs, rfl, hb, hc, h⟩
  have big : 1000 ≤ sizeLine := by decide
  unfold q__law_nodes
  walk_at "ev"
  refine loop_of (fun ds ρ => ∃ (i : Int) (x3 x4 x5 : Sl), ρ = [.da (bD b), .da (.list cs), .da (.int i), x3, x4, x5] ∧ ∀ c ∈ ds, CdOk c) ?_ ?_ _ _ ⟨_, _, _, _, rfl, hc⟩
  · rintro ρ ⟨i, x3, x4, x5, rfl, _⟩
    simp only [thn_nx, q__law_nodes_k1_e]
    walk_at "ev"
    exact h _
  · rintro d ds ρ ⟨i, x3, x4, x5, rfl, hd⟩ ih
    have hds : ∀ c ∈ ds, CdOk c := fun c m => hd c (List.mem_cons_of_mem _ m)
    simp only [q__law_nodes_b2_e]
    unfold bD
    walk_at "ev"
    refine loop_of (fun es ρ => ∃ (us : List Cl) (i : Int) (x4 x5 : Sl), es = us.map cD ∧ ρ = [.da (.tuple (b.map cD)), .da (.list cs), .da (.int i), .da d, x4, x5] ∧ ∀ c ∈ us, c ∈ b) ?_ ?_ _ _ ⟨b, _, _, _, rfl, rfl, fun c m => m⟩
    · rintro ρ ⟨us, i, x4, x5, _, rfl, _⟩
      exact ih _ ⟨i, _, _, _, rfl, hds⟩
    · rintro e es ρ ⟨us, i, x4, x5, he, rfl, hu⟩ ih2
      cases us with
      | nil => cases he
      | cons u us =>
        cases he
        have next : ∀ (i : Int) (x4 x5 : Sl), loopD (qgTup 2 (qgCons (qgName 4) (qgCons (qgName 5) qgNil))) q__law_nodes_b1 _ (us.map cD) [.da (.tuple (b.map cD)), .da (.list cs), .da (.int i), .da d, x4, x5] := fun i x4 x5 => ih2 _ ⟨us, i, x4, x5, rfl, rfl, fun c m => hu c (List.mem_cons_of_mem _ m)⟩
        have hb2 := hb.2.2 u (hu u (List.mem_cons_self ..))
        simp only [q__law_nodes_b1_e]
        unfold cD
        rcases hd d (List.mem_cons_self ..) with rfl | ⟨w, j, rfl, hw⟩ | ⟨w, x, rfl, hw, hx⟩
        · walk_at "ev"
          refine ⟨rfl, ?_⟩
          rw [if_neg (by decide)]
          exact next _ _ _
        · walk_at "ev"
          refine ⟨rfl, ?_⟩
          rw [in_do, decide_eq_false (by rcases hw with rfl | rfl <;> decide), if_neg (by decide)]
          exact next _ _ _
        · walk_at "ev"
          refine ⟨rfl, ?_⟩
          rw [in_do, decide_eq_true hw, if_pos rfl]
          split
          · refine ⟨u.2, rfl, hb2.2.2.1, hb2.2.2.2, fun r => ?_⟩
            walk_at "ev"
            exact next _ _ _
          · exact next _ _ _
def someNames : List Str := ["a", "b", "ab", "a1", "cross", "swing", "dodo", "stops", "f", "jump1", "z9z9z9z9", "forks", "x"]
theorem someN : ∀ x ∈ someNames, 1 ≤ x.length ∧ x.length ≤ 8 := by decide
theorem len__law_book : ∀ gs R, pp__law_book gs R → gs.length = 1 := by
  rintro gs R ⟨rfl, _⟩; rfl
theorem spec__law_book : ∀ gs R, pp__law_book gs R → q__law_book (Ends0 R) (startD 5 gs) := by
  rintro gs R ⟨rfl, h⟩
  have big : 1000 ≤ sizeLine := by decide
  unfold q__law_book
  walk_at "ev"
  refine ⟨_, rfl, by decide, by decide, fun r r0 r1 => ?_⟩
  walk_at "ev"
  refine ⟨by omega, by omega, ?_⟩
  refine range_of (fun lo m ρ => ∃ (ns : List Str) (x2 x3 x4 : Sl), ρ = [.ja, .ow (ns.map .str), x2, x3, x4] ∧ noOw (some x2) ∧ ns.length + m ≤ 6 ∧ (ns.length = 0 → 0 < m) ∧ ∀ n ∈ ns, n ∈ someNames) ?_ ?_ _ _ _ ⟨[], _, _, _, rfl, trivial, by simp; omega, by omega, fun n hn => (by cases hn)⟩
  · rintro lo ρ ⟨ns, x2, x3, x4, rfl, hx2, hl, hp, hn⟩
    have hpos : 1 ≤ ns.length := by
      cases ns with
      | nil => exact absurd (hp rfl) (by omega)
      | cons _ _ => simp
    simp only [thn_nx, q__law_book_k2_e]
    walk_at "ev"
    refine ⟨srtOk_strs (by omega), ?_⟩
    rw [srtD_strs]
    have hperm := srtN_perm ns
    refine loop_of (fun ds ρ => ∃ (us : List Str) (b : List Cl) (x2 x3 : Sl), ds = us.map .str ∧ ρ = [.ja, .ow (ns.map .str), x2, x3, .ow (b.map cD)] ∧ noOw (some x2) ∧ b.length + us.length = ns.length ∧ (∀ n ∈ us, n ∈ someNames) ∧ ∀ c ∈ b, 1 ≤ c.1.length ∧ c.1.length ≤ 8 ∧ c.2.length ≤ 3 ∧ ∀ m ∈ c.2, m = ("turn" : Str) ∨ m = ("twist" : Str) ∨ m = ("back" : Str)) ?_ ?_ _ _ ⟨srtN ns, [], _, _, rfl, rfl, hx2, by rw [hperm.length_eq]; simp, fun n hm => hn n (hperm.mem_iff.mp hm), fun c hc => (by cases hc)⟩
    · rintro ρ ⟨us, b, x2, x3, hd, rfl, hx2, hbl, hu, hb⟩
      have hul : us = [] := List.map_eq_nil_iff.mp hd.symm
      subst hul
      rw [List.length_nil] at hbl
      simp only [thn_nx, q__law_book_k1_e]
      walk_at "ev"
      exact h b ⟨by omega, by omega, hb⟩
    · rintro d ds ρ ⟨us, b, x2, x3, hd, rfl, hx2, hbl, hu, hb⟩ ih
      cases us with
      | nil => cases hd
      | cons u us =>
        cases hd
        rw [List.length_cons] at hbl
        simp only [q__law_book_b1_e]
        walk_at "ev"
        refine ⟨_, rfl, by decide, by decide, fun r r0 r1 => ?_⟩
        walk_at "ev"
        refine ⟨by omega, by omega, ?_⟩
        refine ⟨hx2, ?_⟩
        refine lc_of (fun ds acc => ∃ (lo : Int) (k : Nat) (ms : List Str), ds = rangeD lo k ∧ ms.length + k ≤ 3 ∧ acc = ms.map .str ∧ ∀ m ∈ ms, m = ("turn" : Str) ∨ m = ("twist" : Str) ∨ m = ("back" : Str)) ?_ ?_ _ _ ⟨0, (1 + r).toNat, [], rfl, by simp; omega, rfl, fun m hm => (by cases hm)⟩
        · rintro acc ⟨lo, k, ms, hd, hk, rfl, hms⟩
          refine ⟨by rw [List.length_map]; omega, ih _ ⟨us, b ++ [(u, ms)], x2, _, rfl, by rw [List.map_append]; rfl, hx2, by rw [List.length_append, List.length_singleton]; omega, fun n hn => hu n (List.mem_cons_of_mem _ hn), fun c hc => ?_⟩⟩
          rcases List.mem_append.mp hc with q | q
          · exact hb c q
          · rw [List.mem_singleton.mp q]
            obtain ⟨s1, s2⟩ := someN u (hu u (List.mem_cons_self ..))
            exact ⟨s1, s2, (show ms.length ≤ 3 by omega), hms⟩
        · rintro d ds acc ⟨lo, k, ms, hd, hk, rfl, hms⟩ ih2
          cases k with
          | zero => cases hd
          | succ k =>
            unfold rangeD at hd
            cases hd
            walk_at "ev"
            refine ⟨[.str "turn", .str "twist", .str "back"], .inl rfl, by decide, by decide, fun y hy => ?_⟩
            have hy' : ∃ z : Str, y = .str z ∧ (z = ("turn" : Str) ∨ z = ("twist" : Str) ∨ z = ("back" : Str)) := by
              simp only [List.mem_cons, List.not_mem_nil, or_false] at hy
              rcases hy with q | q | q
              · exact ⟨_, q, .inl rfl⟩
              · exact ⟨_, q, .inr (.inl rfl)⟩
              · exact ⟨_, q, .inr (.inr rfl)⟩
            obtain ⟨z, rfl, hz⟩ := hy'
            walk_at "ev"
            refine ⟨by rw [List.length_map]; omega, ih2 _ ⟨_, k, ms ++ [z], rfl, by rw [List.length_append, List.length_singleton]; omega, by rw [List.map_append]; rfl, fun m hm => ?_⟩⟩
            rcases List.mem_append.mp hm with q | q
            · exact hms m q
            · rw [List.mem_singleton.mp q]; exact hz
  · rintro lo m ρ ⟨ns, x2, x3, x4, rfl, hx2, hl, hp, hn⟩ ih
    simp only [q__law_book_b2_e]
    walk_at "ev"
    refine ⟨someNames.map .str, .inl rfl, by decide, by decide, fun y hy => ?_⟩
    obtain ⟨x, hx, rfl⟩ := List.mem_map.mp hy
    walk_at "ev"
    refine ⟨flat_strs _, ?_⟩
    rw [in_strs]
    by_cases hm : x ∈ ns
    · rw [decide_eq_true hm, if_neg (by decide)]
      refine ih _ ⟨ns, .da (.int lo), _, _, rfl, trivial, by omega, fun z => ?_, hn⟩
      rw [List.length_eq_zero_iff.mp z] at hm
      cases hm
    · rw [decide_eq_false hm, if_pos rfl]
      refine ⟨by rw [List.length_map]; omega, ih _ ⟨ns ++ [x], .da (.int lo), _, _, by rw [List.map_append]; rfl, trivial, by rw [List.length_append, List.length_singleton]; omega, fun z => by rw [List.length_append, List.length_singleton] at z; omega, fun n hn' => ?_⟩⟩
      rcases List.mem_append.mp hn' with q | q
      · exact hn n q
      · rw [List.mem_singleton.mp q]; exact hx
theorem len__law_code : ∀ gs R, pp__law_code gs R → gs.length = 3 := by
  rintro gs R ⟨b, most, rfl, _⟩; rfl
theorem two_of {P : D → Prop} {x y d : D} (h : d ∈ [x, y]) (hx : P x) (hy : P y) : P d := by
  simp only [List.mem_cons, List.not_mem_nil, or_false] at h
  rcases h with rfl | rfl
  · exact hx
  · exact hy
theorem three_of {P : D → Prop} {x y z d : D} (h : d ∈ [x, y, z]) (hx : P x) (hy : P y) (hz : P z) : P d := by
  simp only [List.mem_cons, List.not_mem_nil, or_false] at h
  rcases h with rfl | rfl | rfl
  · exact hx
  · exact hy
  · exact hz
theorem spec__law_code : ∀ gs R, pp__law_code gs R → q__law_code (Ends0 R) (startD 7 gs) := by
  rintro gs R ⟨b, most, rfl, hb, m1, m2, h⟩
  have big : 1000 ≤ sizeLine := by decide
  unfold q__law_code bD
  walk_at "ev"
  refine ⟨by omega, by omega, ?_⟩
  refine range_of (fun lo m ρ => ∃ (cs : List D) (x4 x5 x6 : Sl), ρ = [.ja, .da (.tuple (b.map cD)), .da (.int most), .ow cs, x4, x5, x6] ∧ cs.length + m ≤ 39 ∧ ∀ c ∈ cs, CdOk c) ?_ ?_ _ _ _ ⟨[], _, _, _, rfl, by simp; omega, fun n hn => (by cases hn)⟩
  · rintro lo ρ ⟨cs, x4, x5, x6, rfl, hl, hc⟩
    simp only [thn_nx, q__law_code_k1_e]
    walk_at "ev"
    refine ⟨_, rfl, by omega, by omega, fun r r0 r1 => ?_⟩
    walk_at "ev"
    refine ⟨_, .inl rfl, by simp, by simp, fun y hy => ?_⟩
    have fin : ∀ y, CdOk y → cs.length < sizeLine ∧ R (.da (.tuple (cs ++ [y]))) := fun y hy => ⟨by omega, h _ (by rw [List.length_append, List.length_singleton]; omega) (by rw [List.length_append, List.length_singleton]; omega) fun c hc' => by
      rcases List.mem_append.mp hc' with q | q
      · exact hc c q
      · rw [List.mem_singleton.mp q]; exact hy⟩
    simp only [List.mem_cons, List.not_mem_nil, or_false] at hy
    rcases hy with rfl | rfl | rfl
    · walk_at "ev"
      exact fin _ (.inl rfl)
    · walk_at "ev"
      exact fin _ (.inr (.inl ⟨_, _, rfl, .inr rfl⟩))
    · walk_at "ev"
      exact fin _ (.inl rfl)
  · rintro lo m ρ ⟨cs, x4, x5, x6, rfl, hl, hc⟩ ih
    simp only [q__law_code_b1_e]
    walk_at "ev"
    refine ⟨_, rfl, by decide, by decide, fun r r0 r1 => ?_⟩
    have k2 : ∀ (x5 : Sl) (y : D), CdOk y → q__law_code_k2 { nx := loopD (qgName 4) q__law_code_b1 ((Ends0 R).thn (q__law_code_k1 (Ends0 R))) (rangeD (lo + 1) m), rt := ((Ends0 R).thn (q__law_code_k1 (Ends0 R))).rt, bk := ((Ends0 R).thn (q__law_code_k1 (Ends0 R))).nx, ct := loopD (qgName 4) q__law_code_b1 ((Ends0 R).thn (q__law_code_k1 (Ends0 R))) (rangeD (lo + 1) m) } [.ja, .da (.tuple (b.map cD)), .da (.int most), .ow cs, .da (.int lo), x5, .da y] := by
      intro x5 y hy
      simp only [q__law_code_k2_e]
      walk_at "ev"
      refine ⟨by omega, ih _ ⟨cs ++ [y], _, _, _, rfl, by rw [List.length_append, List.length_singleton]; omega, fun c hc' => ?_⟩⟩
      rcases List.mem_append.mp hc' with q | q
      · exact hc c q
      · rw [List.mem_singleton.mp q]; exact hy
    walk_at "ev"
    split
    · refine ⟨[.str "do", .str "undo"], .inl rfl, by simp, by simp, fun y hy => ?_⟩
      have hy : ∃ z : Str, y = .str z ∧ (z = ("do" : Str) ∨ z = ("undo" : Str)) := by
        simp only [List.mem_cons, List.not_mem_nil, or_false] at hy
        rcases hy with rfl | rfl
        · exact ⟨_, rfl, .inl rfl⟩
        · exact ⟨_, rfl, .inr rfl⟩
      obtain ⟨z, rfl, hz⟩ := hy
      walk_at "ev"
      refine ⟨b.map cD, .inr rfl, fun z => by have := hb.1; rw [List.map_eq_nil_iff.mp z] at this; simp at this, by rw [List.length_map]; have := hb.2.1; omega, fun y hy => ?_⟩
      obtain ⟨c, hcb, rfl⟩ := List.mem_map.mp hy
      have hcd : CdOk (.tuple [.str z, .str c.1]) := .inr (.inr ⟨z, c.1, rfl, hz, (hb.2.2 c hcb).2.1⟩)
      rw [show cD c = .tuple [.str c.1, .tuple (c.2.map .str)] from rfl]
      walk_at "ev"
      refine ⟨by omega, b, _, rfl, hb, fun d hd => ?_, fun n => ?_⟩
      · rcases List.mem_append.mp hd with q | q
        · exact hc d q
        · rw [List.mem_singleton.mp q]; exact hcd
      · walk_at "ev"
        split
        · exact k2 _ _ (.inl rfl)
        · exact k2 _ _ hcd
    · split
      · have h34 : r = 3 ∨ r = 4 := by omega
        have go : ∀ w : Str, (w = ("fork" : Str) ∨ w = ("jump" : Str)) → ∀ i : Int, CdOk (.tuple [.str w, .int i]) := fun w hw i => .inr (.inl ⟨w, i, rfl, hw⟩)
        rcases h34 with rfl | rfl
        · refine ⟨.str "fork", rfl, ?_⟩
          refine ⟨most, rfl, by omega, by omega, fun t t0 t1 => ?_⟩
          walk_at "ev"
          refine ⟨_, .inl rfl, by simp, by simp, fun y hy => ?_⟩
          have hy : ∃ i, y = .int i := by
            simp only [List.mem_cons, List.not_mem_nil, or_false] at hy
            rcases hy with rfl | rfl | rfl
            · exact ⟨_, rfl⟩
            · exact ⟨_, rfl⟩
            · exact ⟨_, rfl⟩
          obtain ⟨i, rfl⟩ := hy
          walk_at "ev"
          exact k2 _ _ (go _ (.inl rfl) _)
        · refine ⟨.str "jump", rfl, ?_⟩
          refine ⟨most, rfl, by omega, by omega, fun t t0 t1 => ?_⟩
          walk_at "ev"
          refine ⟨_, .inl rfl, by simp, by simp, fun y hy => ?_⟩
          have hy : ∃ i, y = .int i := by
            simp only [List.mem_cons, List.not_mem_nil, or_false] at hy
            rcases hy with rfl | rfl | rfl
            · exact ⟨_, rfl⟩
            · exact ⟨_, rfl⟩
            · exact ⟨_, rfl⟩
          obtain ⟨i, rfl⟩ := hy
          walk_at "ev"
          exact k2 _ _ (go _ (.inr rfl) _)
      · exact k2 _ _ (.inl rfl)
set_option hygiene false in
local macro_rules | `(tactic| walk_at "nm") => `(tactic| simp -dsimp (maxSteps := 400000) only [↓hold_app, ↓thn_nx, ↓thn_rt, ↓thn_bk, ↓thn_ct, ↓flatD_ex, ↓exTry_ex, ↓exTry_int, ↓exTry_bool, ↓exTry_str, ↓exTry_tup, ↓exTry_lst, ↓exTry_non, ↓exOf_ex, ↓exOf_int, ↓exOf_bool, ↓exOf_str, ↓exOf_tup, ↓exOf_lst,
  ↓exOf_non, ↓exOf_ow, ↓noEx_ex, ↓noEx_int, ↓noEx_bool, ↓noEx_str, ↓noEx_tup, ↓noEx_lst, ↓noEx_non, ↓noEx_ow, ↓pairX_ex, ↓pairX_int, ↓pairX_bool, ↓pairX_str, ↓pairX_tup, ↓pairX_lst, ↓pairX_non, ↓sEx1_e, ↓sEx2_e, ↓sEx3_e, ↓qRD_e, ↓qDR_e, ↓qLook_e, ↓qVar_e, ↓qMove_e, ↓qC_e, ↓qBin_e, ↓qBinN_e, ↓qBinM_e,
  ↓qTst_e, ↓qTru_e, ↓qAnd_e, ↓qOr_e, ↓qNot_e, ↓qAndV_e, ↓qOrV_e, ↓qNotV_e, ↓qIf_e, ↓qNil_e, ↓qCons_e, ↓qTup_e, ↓qLst_e, ↓qNeg_e, ↓qO0_e, ↓qO1_e, ↓qSl_e, ↓qSlN_e, ↓qCl_e, ↓qIsi_e, ↓qCall_e, ↓qaNil_e, ↓qaD_e, ↓qaN_e, ↓qApp_e, ↓qExt_e, ↓qPop_e, ↓qJoin_e, ↓qItD_e, ↓qRng1_e, ↓qRng2_e, ↓qgName_e, ↓qgNil_e,
  ↓qgCons_e, ↓qgTup_e, ↓qNext_e, ↓qSeq_e, ↓qBrk_e, ↓qCnt_e, ↓qDrop_e, ↓qRet_e, ↓qRetN_e, ↓qIfS_e, ↓qSet_e, ↓qAsg_e, ↓qPar_e, ↓qAugI_e, ↓qFor_e, ↓qYes_e, ↓qLc_e, ↓qReord_e, ↓qPut_e, ↓qBits_e, ↓qJd_e, ↓qJput_e, ↓qJlen_e, ↓qJapp_e, ↓qJpop_e, ↓qJix_e, ↓qJput2_e, ↓qnNil_e, ↓qnCons_e, ↓qnDic_e, ↓qmSeq_e, ↓qmRet_e,
  ↓qmDisp_e, ↓qoRet_e, ↓qMake_e, ↓qKget_e, ↓qKin_e, ↓qRev_e, ↓qSindex_e, ↓qCget_e, ↓qCget2_e, ↓qJin_e, ↓qJmput_e, ↓qJun2_e, ↓qExtT_e, ↓qRng3_e, ↓qZip_e, ↓qExtL_e, ↓qDgx_e, ↓qEnum_e, ↓qDropX_e, ↓qSetX_e, ↓qRaise_e, ↓qCallN_e, ↓qTry_e, ↓qXf_e, ↓qIsX_e, ↓qPairX_e, ↓qChain_e, ↓qUpper_e, ↓qPopAt_e, ↓qDead_e,
  ↓qDeadS_e, ↓qJsee_e, ↓qDx_e, ↓qOdGet_e, ↓qOdIn_e, ↓qD0_e, ↓qOdPut_e, asD, truP, seeD, frz, known, isB, dAdd, dI, dSub, dMul, dFdiv, dMod, dPow, dShl, dC, dC2, dLt, dLe, dGt, dGe, dEqB, dEq, dNe, dIs, Zd.isNon, dIn, dIx, dSl, cLen, cAbs, cInt, cMin, cMax, cGcd, cTuple, cList, tyD, given, resv, frzs,
  behind, flatD, rowD, strsD, itemsD, clean, noOw, wipeD, isOw, putOw, startD, slA, jPart, Jc.put, isT, isTs, keyD, Kd.at, Tb.at, cAny, cAll, cSum, cSortS, zipD, Bool.and_true, Bool.true_and, cSortD, enumD, EndX, atK, qPs, seeOd, isOd, soleOd, Nd.l.injEq, Nd.d.injEq, Nd.m.injEq, Sl.jo.injEq, List.map_append,
  List.getLast?_concat, List.dropLast_concat, Sum.inl.injEq, Sum.inr.injEq, ixl_1_0, ixl_2_0, ixl_2_1, ixl_3_0, ixl_3_1, ixl_3_2, ixl_4_0, ixl_4_1, ixl_4_2, ixl_4_3, ixl_5_0, ixl_5_1, ixl_5_2, ixl_5_3, ixl_5_4, ixl_6_0, ixl_6_1, ixl_6_2, ixl_6_3, ixl_6_4, ixl_6_5, reord, List.getD_cons_zero, List.getD_cons_succ,
  kb_bool_bool, kb_bool_int, kb_bool_str, kb_bool_tuple, kb_bool_list, kb_int_bool, kb_int_int, kb_int_str, kb_int_tuple, kb_int_list, kb_str_bool, kb_str_int, kb_str_str, kb_str_tuple, kb_str_list, kb_tuple_bool, kb_tuple_int, kb_tuple_str, kb_tuple_tuple, kb_tuple_list, kb_list_bool, kb_list_int, kb_list_str,
  kb_list_tuple, kb_list_list, kb_NoneType_bool, kb_NoneType_int, kb_NoneType_str, kb_NoneType_tuple, kb_NoneType_list, List.map_cons, List.map_nil, List.length_cons, List.length_nil, Nat.reduceAdd, Nat.reduceSub, List.replicate_succ, List.replicate_zero, List.cons_append, List.nil_append, List.getElem?_cons_zero,
  List.getElem?_cons_succ, List.getElem?_nil, List.set_cons_zero, List.set_cons_succ, Option.map_some, Option.some.injEq, Option.map_none, PyData.int.injEq, PyData.bool.injEq, PyData.str.injEq, PyData.tuple.injEq, PyData.list.injEq, Sl.da.injEq, Sl.ow.injEq, Ag.d.injEq, List.cons.injEq, exists_eq_left',
  exists_eq_left, exists_eq_right, exists_eq_right', exists_and_left, exists_eq, exists_eq', exists_const, and_true, true_and, and_assoc, decide_eq_true_eq, Bool.not_eq_true', decide_eq_false_iff_not, reduceIte, Bool.false_eq_true, Bool.true_eq_false, Bool.not_true, Bool.not_false, reduceCtorEq, and_false,
  false_and, exists_false, decide_true, decide_false, atI_0, atI_1, atI_2, noJ_nil, noJ_un, noJ_da, noJ_ow, noJ_od, Sl.od.injEq, List.zip_cons_cons, List.zip_nil_right, List.zip_nil_left, abs_nat, Nat.succ_ne_zero, ne_eq, not_false_eq_true, not_true_eq_false, a0, a1])
theorem len__law_odd : ∀ gs R, pp__law_odd gs R → gs.length = 3 := by
  rintro gs R ⟨b, many, rfl, _⟩; rfl
theorem nms_ends {b : List Cl} (hb : BkOk b) : ∃ n0 n1 : Str, n0.length ≤ 8 ∧ n1.length ≤ 8 ∧ atI ((nms b).map PyData.str) 0 = some (.str n0) ∧ atI ((nms b).map PyData.str) (-1) = some (.str n1) := by
  obtain ⟨h1, _, h3⟩ := hb
  have len : ∀ n ∈ nms b, n.length ≤ 8 := fun n hn => by
    obtain ⟨c, hc, rfl⟩ := List.mem_map.mp hn
    exact (h3 c hc).2.1
  have hl : 1 ≤ (nms b).length := by unfold nms; rw [List.length_map]; exact h1
  generalize nms b = ns at *
  rcases List.eq_nil_or_concat ns with rfl | ⟨L, y, hL⟩
  · simp at hl
  · cases ns with
    | nil => simp at hl
    | cons x xs =>
      refine ⟨x, y, len x (List.mem_cons_self ..), len y (by rw [hL]; simp), at0 _ _, ?_⟩
      rw [hL, List.concat_eq_append, List.map_append]
      exact at_m1 _ _
theorem spec__law_odd : ∀ gs R, pp__law_odd gs R → q__law_odd (Ends0 R) (startD 9 gs) := by
  rintro gs R ⟨b, many, rfl, hb, m1, m2, h⟩
  have big : 1000 ≤ sizeLine := by decide
  have hb6 := hb.2.1
  unfold q__law_odd
  refine ⟨b.map cD, rfl, ⟨trivial, trivial, trivial⟩, ?_⟩
  refine lc_map cD (fun _ => true) (fun c => PyData.str c.1) b (by omega) ?_ fun c hc acc G ha hG => ?_
  · rw [filter_true, show (b.map fun c => PyData.str c.1) = (nms b).map .str from (List.map_map ..).symm]
    obtain ⟨n0, n1, l0, l1, a0, a1⟩ := nms_ends hb
    show q__law_odd_s12 (Ends0 R) [.ja, .da (bD b), .da (.int many), .ow ((nms b).map .str), .un, .un, .un, .un, .un]
    generalize (nms b).map PyData.str = ns at *
    walk_at "nm"
    refine ⟨_, rfl, by decide, by decide, fun r r0 r1 => ?_⟩
    walk_at "nm"
    refine ⟨_, .inl rfl, by simp, by simp, fun y hy => ?_⟩
    have hy : ∃ w : Str, y = .str w := by
      simp only [List.mem_cons, List.not_mem_nil, or_false] at hy
      rcases hy with rfl | rfl | rfl | rfl <;> exact ⟨_, rfl⟩
    obtain ⟨w, rfl⟩ := hy
    walk_at "nm"
    have lx : (Str.ofString "x").length = 1 := by decide
    have lsp : (Str.ofString " ").length = 1 := by decide
    split
    · refine ⟨_, .inl rfl, by simp, by simp, fun y hy => ?_⟩
      have hy : ∃ w : Str, y = .str w := by
        simp only [List.mem_cons, List.not_mem_nil, or_false] at hy
        rcases hy with rfl | rfl | rfl | rfl | rfl | rfl | rfl | rfl | rfl <;> exact ⟨_, rfl⟩
      obtain ⟨w, rfl⟩ := hy
      walk_at "nm"
      refine ⟨_, .inl rfl, by simp, by simp, fun y hy => ?_⟩
      rw [hold_app]
      unfold behind
      dsimp only
      split <;> (walk_at "nm"; exact h _)
    · split
      · refine ⟨_, .inl rfl, by simp, by simp, fun y hy => ?_⟩
        rw [hold_app]
        unfold behind
        dsimp only
        split <;> (walk_at "nm"; exact h _)
      · split
        · refine ⟨by omega, by omega, ⟨by decide, by decide⟩, by omega, by omega, ?_⟩
          refine ⟨_, .inl rfl, by simp, by simp, fun y hy => ?_⟩
          have hy : ∃ w : Str, y = .str w := by
            simp only [List.mem_cons, List.not_mem_nil, or_false] at hy
            rcases hy with rfl | rfl <;> exact ⟨_, rfl⟩
          obtain ⟨w, rfl⟩ := hy
          walk_at "nm"
          refine ⟨_, .inl rfl, by simp, by simp, fun y hy => ?_⟩
          rw [hold_app]
          unfold behind
          dsimp only
          split <;> (walk_at "nm"; exact h _)
        · split
          · refine ⟨⟨by decide, by decide⟩, ?_⟩
            refine ⟨_, .inl rfl, by simp, by simp, fun y hy => ?_⟩
            have hy : ∃ w : Str, y = .str w := by
              simp only [List.mem_cons, List.not_mem_nil, or_false] at hy
              rcases hy with rfl | rfl <;> exact ⟨_, rfl⟩
            obtain ⟨w, rfl⟩ := hy
            walk_at "nm"
            refine ⟨_, .inl rfl, by simp, by simp, fun y hy => ?_⟩
            rw [hold_app]
            unfold behind
            dsimp only
            split <;> (walk_at "nm"; exact h _)
          · split
            · refine ⟨_, .inl rfl, by simp, by simp, fun y hy => ?_⟩
              rw [hold_app]
              unfold behind
              dsimp only
              split <;> (walk_at "nm"; exact h _)
            · split
              · refine ⟨_, .inl rfl, by simp, by simp, fun y hy => ?_⟩
                rw [hold_app]
                unfold behind
                dsimp only
                split <;> (walk_at "nm"; exact h _)
              · split
                · refine ⟨_, .inl rfl, by simp, by simp, fun y hy => ?_⟩
                  have hy : ∃ w : Str, y = .str w := by
                    simp only [List.mem_cons, List.not_mem_nil, or_false] at hy
                    rcases hy with rfl | rfl <;> exact ⟨_, rfl⟩
                  obtain ⟨w, rfl⟩ := hy
                  walk_at "nm"
                  refine ⟨_, rfl, by omega, by omega, fun t t0 t1 => ?_⟩
                  walk_at "nm"
                  exact h _
                · exact h _
  · rw [if_pos rfl] at hG
    unfold cD
    walk_at "ev"
    exact ⟨ha, hG⟩
theorem len__law_spoilt : ∀ gs R, pp__law_spoilt gs R → gs.length = 3 := by
  rintro gs R ⟨b, cs, rfl, _⟩; rfl
theorem spec__law_spoilt : ∀ gs R, pp__law_spoilt gs R → q__law_spoilt (Ends0 R) (startD 6 gs) := by
  rintro gs R ⟨b, cs, rfl, hb, m1, m2, h⟩
  have big : 1000 ≤ sizeLine := by decide
  unfold q__law_spoilt
  have s5 : ∀ at_ : Int, 0 ≤ at_ → at_ < cs.length → q__law_spoilt_s5 (Ends0 R) [.ja, .da (bD b), .da (.tuple cs), .da (.int at_), .un, .un] := by
    intro i i0 i1
    refine ⟨trivial, _, rfl, _, rfl, by decide, by decide, fun r r0 r1 => ?_⟩
    show q__law_spoilt_s4 (Ends0 R) [.ja, .da (bD b), .da (.tuple cs), .da (.int i), .da (.int r), .un]
    walk_at "ev"
    refine ⟨b, cs.length, rfl, hb, by omega, by omega, fun d => ?_⟩
    have s3 : q__law_spoilt_s3 (Ends0 R) [.ja, .da (bD b), .da (.tuple cs), .da (.int i), .da (.int r), .da d] := by
      walk_at "ev"
      have c1 := (cutD_in (ds := cs) (a := none) (b := some i)).1
      have c2 := (cutD_in (ds := cs) (a := some (i + 1)) (b := none)).1
      have c3 := (cutD_in (ds := cs) (a := none) (b := some (-1))).1
      have f1 : (Zd.cutD cs none (some i)).length + 1 ≤ sizeLine ∧ (Zd.cutD cs none (some i) ++ [d]).length + (Zd.cutD cs (some (i + 1)) none).length ≤ sizeLine ∧ R (.da (.tuple (Zd.cutD cs none (some i) ++ [d] ++ Zd.cutD cs (some (i + 1)) none))) := ⟨by omega, by simp only [List.length_append, List.length_singleton]; omega, h _ (by simp only [List.length_append, List.length_singleton]; omega)⟩
      have f2 : (Zd.cutD cs none (some i)).length + (Zd.cutD cs (some (i + 1)) none).length ≤ sizeLine ∧ R (.da (.tuple (Zd.cutD cs none (some i) ++ Zd.cutD cs (some (i + 1)) none))) := ⟨by omega, h _ (by simp only [List.length_append]; omega)⟩
      have f3 : (Zd.cutD cs none (some (-1))).length + 1 ≤ sizeLine ∧ R (.da (.tuple (Zd.cutD cs none (some (-1)) ++ [d]))) := ⟨by omega, h _ (by simp only [List.length_append, List.length_singleton]; omega)⟩
      have f4 : cs.length + 1 ≤ sizeLine ∧ R (.da (.tuple (cs ++ [d]))) := ⟨by omega, h _ (by simp only [List.length_append, List.length_singleton]; omega)⟩
      have f5 : if r = 5 then (Zd.cutD cs none (some (-1))).length + 1 ≤ sizeLine ∧ R (.da (.tuple (Zd.cutD cs none (some (-1)) ++ [d]))) else if 38 < (cs.length : Int) then (Zd.cutD cs none (some (-1))).length + 1 ≤ sizeLine ∧ R (.da (.tuple (Zd.cutD cs none (some (-1)) ++ [d]))) else cs.length + 1 ≤ sizeLine ∧ R (.da (.tuple (cs ++ [d]))) := by
        split
        · exact f3
        · split
          · exact f3
          · exact f4
      split
      · exact f1
      · split
        · split
          · exact f2
          · exact f5
        · exact f5
    revert s3
    rw [hold_app]
    unfold behind
    dsimp only
    split
    · walk_at "ev"
      exact id
    · walk_at "ev"
      exact id
  revert s5
  walk_at "ev"
  intro s5
  refine ⟨_, rfl, by decide, by decide, fun r r0 r1 => ?_⟩
  walk_at "ev"
  split
  · exact s5 _ (by omega) (by omega)
  · refine ⟨_, rfl, by omega, by omega, fun t t0 t1 => ?_⟩
    walk_at "ev"
    exact s5 _ (by omega) (by omega)
theorem cutS_le (x : Str) (a b : Option Int) : (cutS x a b).length ≤ x.length := by
  unfold cutS
  show (List.take _ _).toArray.size ≤ _
  rw [List.size_toArray, List.length_take, List.length_drop]
  have e : x.length = x.cps.toList.length := by rw [Array.length_toList]; rfl
  rw [e]
  omega
theorem len__law_forms : ∀ gs R, pp__law_forms gs R → gs.length = 3 := by
  rintro gs R ⟨b, cs, rfl, _⟩; rfl
theorem forms_end {R : Sl → Prop} {b o : List Cl} {cs L : List D} (n0 : L ≠ []) (n1 : L.length < 1000) (hL : ∀ y ∈ L, lenT y ≤ 1000) (hb : b.length ≤ 10) (ho : o.length ≤ 10) (hc : cs.length ≤ 1000) (h : R (.da (.bool true))) :
    q__law_forms_s1 (Ends0 R) [.ja, .da (bD b), .da (.tuple cs), .da (.tuple (o.map cD)), .ow L, .un, .un, .un] := by
  walk_at "ev"
  refine ⟨by decide, by decide, ?_⟩
  refine range_of (fun lo m ρ => ∃ (x4 x5 : Sl), ρ = [.ja, .da (bD b), .da (.tuple cs), .da (.tuple (o.map cD)), x4, x5, .un, .un] ∧ (x4 = .ow L ∨ x4 = .da (.list L))) ?_ ?_ _ _ _ ⟨_, _, rfl, .inl rfl⟩
  · rintro lo ρ ⟨x4, x5, rfl, h4⟩
    simp only [thn_nx, q__law_forms_k1_e]
    walk_at "ev"
    rw [srtD_calls]
    refine ⟨srtOk_calls (by omega), srt o, _, false, rfl, by rw [srt_len]; exact ho, hc, ?_⟩
    walk_at "ev"
    exact h
  · rintro lo m ρ ⟨x4, x5, rfl, h4⟩ ih
    simp only [q__law_forms_b1_e]
    rcases h4 with rfl | rfl
    · walk_at "ev"
      refine ⟨L, .inl rfl, n0, n1, fun y hy => ?_⟩
      rw [hold_app]
      unfold behind
      dsimp only
      split <;>
      · walk_at "ev"
        refine ⟨b, y, false, rfl, hb, hL y hy, ?_⟩
        walk_at "ev"
        exact ih _ ⟨_, _, rfl, by first | exact .inl rfl | exact .inr rfl⟩
    · walk_at "ev"
      refine ⟨L, .inl rfl, n0, n1, fun y hy => ?_⟩
      rw [hold_app]
      unfold behind
      dsimp only
      split <;>
      · walk_at "ev"
        refine ⟨b, y, false, rfl, hb, hL y hy, ?_⟩
        walk_at "ev"
        exact ih _ ⟨_, _, rfl, by first | exact .inl rfl | exact .inr rfl⟩
theorem forms_list {R : Sl → Prop} {b o : List Cl} {cs : List D} {es : List D} (a0 : atI cs 0 = some (.tuple es)) (hb : b.length ≤ 10) (ho : o.length ≤ 10) (hc : cs.length ≤ 40) (h : R (.da (.bool true))) :
    q__law_forms_s2 (Ends0 R) [.ja, .da (bD b), .da (.tuple cs), .da (.tuple (o.map cD)), .un, .un, .un, .un] := by
  have big : 1000 ≤ sizeLine := by decide
  have c3 := (cutD_in (ds := cs) (a := none) (b := some (-1))).1
  have c2 := (cutD_in (ds := cs) (a := some 1) (b := none)).1
  have e1 : (Zd.cutD cs none (some (-1))).length + ([.none] : List D).length ≤ sizeLine := by rw [List.length_singleton]; omega
  have e2 : ([.list es] : List D).length + (Zd.cutD cs (some 1) none).length ≤ sizeLine := by rw [List.length_singleton]; omega
  have hL : ∀ y ∈ ([.none, .tuple [], .list [], .list cs, .str "stop", .int 0, .bool true, .tuple [.tuple cs], .list [.tuple cs], .tuple (Zd.cutD cs none (some (-1)) ++ [.none]), .tuple ([.list es] ++ Zd.cutD cs (some 1) none), .tuple [.str "stop"], .tuple [.tuple [.str "stop"], .str "stop"], .tuple [.tuple []]] : List D), lenT y ≤ 1000 := by
    intro y hy
    simp only [List.mem_cons, List.not_mem_nil, or_false] at hy
    rcases hy with rfl | rfl | rfl | rfl | rfl | rfl | rfl | rfl | rfl | rfl | rfl | rfl | rfl | rfl
    · exact Nat.zero_le _
    · exact Nat.zero_le _
    · exact Nat.zero_le _
    · exact Nat.zero_le _
    · exact Nat.zero_le _
    · exact Nat.zero_le _
    · exact Nat.zero_le _
    · show 1 ≤ 1000; omega
    · exact Nat.zero_le _
    · show (Zd.cutD cs none (some (-1)) ++ [PyData.none]).length ≤ 1000
      rw [List.length_append, List.length_singleton]; omega
    · show ([PyData.list es] ++ Zd.cutD cs (some 1) none).length ≤ 1000
      rw [List.length_append, List.length_singleton]; omega
    · show 1 ≤ 1000; omega
    · show 2 ≤ 1000; omega
    · show 1 ≤ 1000; omega
  refine ⟨trivial, 1, rfl, -1, rfl, e1, trivial, _, a0, trivial, 1, rfl, e2, ?_⟩
  have fin := forms_end (b := b) (o := o) (cs := cs) (by simp) (by simp) hL hb ho (by omega) h
  exact fin
def oth (c : Cl) : Cl := (if c.1.length < 8 then c.1 ++ Str.ofString "q" else Str.ofString "q" ++ cutS c.1 (some 1) none, c.2)
theorem tup_step (L : List D) (ρ : List Sl) (P : Sl → List Sl → Prop) (h : P (.da (.tuple L)) ρ) : asD (Sl.ow L) (fun d => qNil ρ fun ds ρ2 => cTuple (d :: ds) fun s => P s ρ2) := h
theorem spec__law_forms : ∀ gs R, pp__law_forms gs R → q__law_forms (Ends0 R) (startD 8 gs) := by
  rintro gs R ⟨b, cs, rfl, hb, m1, m2, hc, h⟩
  have big : 1000 ≤ sizeLine := by decide
  have hb6 := hb.2.1
  have a0 : ∃ es, atI cs 0 = some (.tuple es) := by
    cases cs with
    | nil => simp at m1
    | cons c cs =>
      rw [at0]
      rcases hc c (List.mem_cons_self ..) with rfl | ⟨w, i, rfl, _⟩ | ⟨w, x, rfl, _⟩ <;> exact ⟨_, rfl⟩
  obtain ⟨es, a0⟩ := a0
  have fin := forms_list (R := R) (b := b) (o := b.map oth) a0 (by omega) (by rw [List.length_map]; omega) m2 h
  unfold q__law_forms
  generalize hS : q__law_forms_s2 = S
  refine ⟨b.map cD, rfl, ⟨trivial, trivial, trivial⟩, ?_⟩
  refine lc_map cD (fun _ => true) (fun c => cD (oth c)) b (by omega) ?_ fun c hc acc G ha hG => ?_
  · rw [filter_true, show (b.map fun c => cD (oth c)) = (b.map oth).map cD by rw [List.map_map]; rfl]
    have hρ : frz (startD 8 [Ag.j, Ag.d (bD b), Ag.d (PyData.tuple cs)]) 1 = [.ja, .da (bD b), .da (.tuple cs), .un, .un, .un, .un, .un] := rfl
    have hq : S (Ends0 R) [.ja, .da (bD b), .da (.tuple cs), .da (.tuple ((b.map oth).map cD)), .un, .un, .un, .un] := by
      subst hS
      exact fin
    rw [hρ]
    exact tup_step _ _ (fun s ρ' => S (Ends0 R) (ρ'.set 3 s)) hq
  · rw [if_pos rfl] at hG
    have h8 := (hb.2.2 c hc).2.1
    have lq : (Str.ofString "q").length = 1 := by decide
    have lc : (cutS c.1 (some 1) none).length ≤ c.1.length := cutS_le _ _ _
    unfold oth at hG
    rw [show cD c = .tuple [.str c.1, .tuple (c.2.map .str)] from rfl]
    walk_at "ev"
    refine ⟨by omega, ?_⟩
    by_cases h7 : c.1.length < 8
    · rw [if_pos h7] at hG
      rw [if_pos (by omega)]
      exact ⟨by omega, ha, hG⟩
    · rw [if_neg h7] at hG
      rw [if_neg (by omega)]
      exact ⟨by omega, by omega, ha, hG⟩
def rowD (r : D × Ans) : D := .tuple [r.1, ansD r.2]
abbrev st1 (w : Str) : D := .tuple [.str w]
abbrev st2 (w : Str) (d : D) : D := .tuple [.str w, d]
abbrev handB : List Cl := [("a", ["turn"]), ("b", ["twist"])]
def rows : List (D × Ans) := [(.tuple [st1 "stop"], .told 1), (.tuple [st2 "jump" (.int 0)], .told 1), (.tuple [st2 "fork" (.int 1), st2 "do" (.str "a"), st2 "undo" (.str "b"), st2 "jump" (.int 0), st1 "stop"], .told 5),
  (.tuple [st2 "do" (.str "a")], .ref 0 "place"), (.tuple [st2 "do" (.str "c")], .ref 0 "name"), (.tuple [st2 "fork" (.int 0)], .ref 0 "place"),
  (.tuple [st2 "jump" (.int 1)], .ref 0 "place"), (.tuple [st2 "fork" (.int 2), st1 "stop"], .ref 0 "place"), (.tuple [st2 "fork" (.bool true), st1 "stop"], .ref 0 "place"),
  (.tuple [.tuple [.str "do", .str "a", .int 0], st2 "do" (.str "c")], .ref 0 "word"), (.tuple [st2 "do" (.str "c"), st1 "halt"], .ref 0 "name"), (.tuple [st1 "stop", st2 "undo" (.str "b")], .ref 1 "place"),
  (.tuple [st1 "halt", .tuple []], .ref (-1) "shape"), (.tuple [st2 "do" (.str "c"), .list [.str "stop"]], .ref (-1) "shape"), (.list [st1 "stop"], .ref (-1) "shape"),
  (.tuple [st2 "stop" (.int 0)], .ref 0 "word"), (.tuple [st2 "jump" (.str "0"), st1 "stop"], .ref 0 "place"), (.tuple [st1 "stop", st1 "stop", .tuple [.int 1]], .ref (-1) "shape"),
  (.tuple [st2 "do" .none, st1 "stop"], .ref 0 "name"), (.tuple [st2 "jump" (.int (-1)), st1 "stop"], .ref 0 "place"), (.tuple [st2 "fork" (.int 1), st2 "fork" (.int 0)], .ref 1 "place")]
def ansEq : Ans → Ans → Bool
  | .told n, .told m => decide (n = m)
  | .ref p w, .ref q v => decide (p = q) && decide (w = v)
  | _, _ => false
theorem ansEq_ok : ∀ {a b : Ans}, ansEq a b = true → a = b
  | .told n, .told m, h => by rw [of_decide_eq_true h]
  | .ref p w, .ref q v, h => by
    have h := Bool.and_eq_true_iff.mp h
    rw [of_decide_eq_true h.1, of_decide_eq_true h.2]
  | .told n, .ref q v, h => by cases h
  | .ref p w, .told m, h => by cases h
theorem rows_ok : ∀ r ∈ rows, ans (nms handB) r.1 = r.2 ∧ lenT r.1 ≤ 1000 ∧ PyData.eqv (ansD r.2) (ansD r.2) = true ∧ SeqAt.shaped (ansD r.2) = true := by
  have : rows.all (fun r => ansEq (ans (nms handB) r.1) r.2 && (decide (lenT r.1 ≤ 1000) && (PyData.eqv (ansD r.2) (ansD r.2) && SeqAt.shaped (ansD r.2)))) = true := by decide +kernel
  intro r hr
  have h1 := Bool.and_eq_true_iff.mp (List.all_eq_true.mp this r hr)
  have h2 := Bool.and_eq_true_iff.mp h1.2
  have h3 := Bool.and_eq_true_iff.mp h2.2
  exact ⟨ansEq_ok h1.1, of_decide_eq_true h2.1, h3⟩
theorem len__law_by_hand : ∀ gs R, pp__law_by_hand gs R → gs.length = 0 := by
  rintro gs R ⟨rfl, _⟩; rfl
theorem hand_loop {R : Sl → Prop} (h : R (.da (.bool true))) (x1 x2 x3 : Sl) : loopD (qgTup 2 (qgCons (qgName 2) (qgCons (qgName 3) qgNil))) q__law_by_hand_b1 ((Ends0 R).thn (q__law_by_hand_k1 (Ends0 R))) (rows.map rowD) [.da (bD handB), x1, x2, x3] := by
  refine loop_of (fun ds ρ => ∃ (rs : List (D × Ans)) (x1 x2 x3 : Sl), ds = rs.map rowD ∧ ρ = [.da (bD handB), x1, x2, x3] ∧ ∀ r ∈ rs, r ∈ rows) ?_ ?_ _ _ ⟨rows, _, _, _, rfl, rfl, fun r hr => hr⟩
  · rintro ρ ⟨rs, x1, x2, x3, hd, rfl, hr⟩
    simp only [thn_nx, q__law_by_hand_k1_e]
    walk_at "ev"
    exact h
  · rintro d ds ρ ⟨rs, x1, x2, x3, hd, rfl, hr⟩ ih
    cases rs with
    | nil => cases hd
    | cons r rs =>
      cases hd
      obtain ⟨r1, r2, e1, e2⟩ := rows_ok r (hr r (List.mem_cons_self ..))
      simp only [q__law_by_hand_b1_e]
      rw [show rowD r = .tuple [r.1, ansD r.2] from rfl]
      have next : ∀ x1 x2 x3, loopD (qgTup 2 (qgCons (qgName 2) (qgCons (qgName 3) qgNil))) q__law_by_hand_b1 ((Ends0 R).thn (q__law_by_hand_k1 (Ends0 R))) (rs.map rowD) [.da (bD handB), x1, x2, x3] := fun x1 x2 x3 => ih _ ⟨rs, x1, x2, x3, rfl, rfl, fun r m => hr r (List.mem_cons_of_mem _ m)⟩
      generalize rs.map rowD = rest at *
      walk_at "ev"
      refine ⟨handB, r.1, rfl, by decide, r2, ?_⟩
      rw [r1]
      obtain ⟨d, a⟩ := r
      dsimp only at *
      cases a <;>
      · unfold ansD at *
        walk_at "ev"
        refine ⟨e2, e2, ?_⟩
        rw [e1, if_neg (by decide)]
        refine ⟨handB, d, false, rfl, by decide, r2, ?_⟩
        walk_at "ev"
        exact next _ _ _
theorem spec__law_by_hand : ∀ gs R, pp__law_by_hand gs R → q__law_by_hand (Ends0 R) (startD 4 gs) := by
  rintro gs R ⟨rfl, h⟩
  have big : 1000 ≤ sizeLine := by decide
  have l3 : ∀ (n : Nat) (xs ys : List D), xs.length = n → n ≤ 100 → ys.length = 3 → xs.length + ys.length ≤ sizeLine := fun n xs ys h1 h2 h3 => by omega
  unfold q__law_by_hand
  refine ⟨trivial, l3 3 _ _ rfl (by decide) rfl, trivial, l3 6 _ _ rfl (by decide) rfl, trivial, l3 9 _ _ rfl (by decide) rfl, trivial, 1, rfl, 1, rfl, 1, rfl, l3 12 _ _ rfl (by decide) rfl, trivial, 1, rfl, l3 15 _ _ rfl (by decide) rfl, trivial, 1, rfl, l3 18 _ _ rfl (by decide) rfl, rows.map rowD, rfl, ?_⟩
  exact hand_loop h _ _ _
theorem law_loop (t : D) (g : Bool) (ds : List D) (hd : ∀ d ∈ ds, ∃ i : Int, d = .int i ∧ 1 ≤ i ∧ i ≤ 40) (x3 x4 x5 x6 x7 : Sl) : loopD (qgName 3) q_law_b2 (EndL.thn (q_law_k1 EndL)) ds [.da t, .ja, .da (.bool g), x3, x4, x5, x6, x7] := by
  have big : 1000 ≤ sizeLine := by decide
  refine loop_of (fun ds ρ => ∃ (x3 x4 x5 x6 x7 : Sl), ρ = [.da t, .ja, .da (.bool g), x3, x4, x5, x6, x7] ∧ ∀ d ∈ ds, ∃ i : Int, d = .int i ∧ 1 ≤ i ∧ i ≤ 40) ?_ ?_ _ _ ⟨_, _, _, _, _, rfl, hd⟩
  · rintro ρ ⟨x3, x4, x5, x6, x7, rfl, _⟩
    simp only [thn_nx, q_law_k1_e]
    walk_at "ev"
  · rintro d ds ρ ⟨x3, x4, x5, x6, x7, rfl, hd⟩ ih
    obtain ⟨i, rfl, i1, i2⟩ := hd d (List.mem_cons_self ..)
    have hds : ∀ d ∈ ds, ∃ i : Int, d = .int i ∧ 1 ≤ i ∧ i ≤ 40 := fun d m => hd d (List.mem_cons_of_mem _ m)
    simp only [q_law_b2_e]
    walk_at "ev"
    refine ⟨rfl, fun b hb => ?_⟩
    unfold bD
    walk_at "ev"
    refine ⟨b, i, rfl, hb, i1, i2, fun cs c1 c2 hc => ?_⟩
    have hb6 := hb.2.1
    walk_at "ev"
    refine ⟨b, .tuple cs, true, rfl, by omega, (show cs.length ≤ 1000 by omega), ?_⟩
    walk_at "ev"
    refine ⟨b, cs, rfl, hb, c1, c2, hc, ?_⟩
    walk_at "ev"
    refine ⟨by decide, by decide, ?_⟩
    refine range_of (fun lo m ρ => ∃ (x6 x7 : Sl), ρ = [.da t, .ja, .da (.bool g), .da (.int i), .da (.tuple (b.map cD)), .da (.tuple cs), x6, x7]) ?_ ?_ _ _ _ ⟨_, _, rfl⟩
    · rintro lo ρ ⟨x6, x7, rfl⟩
      exact ih _ ⟨_, _, _, _, _, rfl, hds⟩
    · rintro lo m ρ ⟨x6, x7, rfl⟩ ih2
      have k2 : ∀ (E : EndD) (es : List D), (∀ x7 : Sl, E.nx [.da t, .ja, .da (.bool g), .da (.int i), .da (.tuple (b.map cD)), .da (.tuple cs), .da (.int lo), x7]) → es.length ≤ 1000 → q_law_k2 E [.da t, .ja, .da (.bool g), .da (.int i), .da (.tuple (b.map cD)), .da (.tuple cs), .da (.int lo), .da (.tuple es)] := by
        intro E es hE he
        simp only [q_law_k2_e]
        walk_at "ev"
        refine ⟨b, .tuple es, false, rfl, by omega, he, ?_⟩
        walk_at "ev"
        exact hE _
      simp only [q_law_b1_e]
      walk_at "ev"
      refine ⟨b, cs, rfl, hb, c1, by omega, fun es he => ?_⟩
      walk_at "ev"
      split
      · split
        · refine ⟨b, es, rfl, hb, by omega, by omega, fun fs hf => ?_⟩
          walk_at "ev"
          exact k2 _ fs (fun x7 => ih2 _ ⟨_, _, rfl⟩) (by omega)
        · exact k2 _ es (fun x7 => ih2 _ ⟨_, _, rfl⟩) (by omega)
      · exact k2 _ es (fun x7 => ih2 _ ⟨_, _, rfl⟩) (by omega)
theorem spec_law : ∀ ns : List Int, ns.length ≤ 63 → q_law EndL (startD 8 [.d (.list (ns.map .int))]) := by
  intro ns hl
  have big : 1000 ≤ sizeLine := by decide
  unfold q_law
  walk_at "ev"
  refine ⟨ns, rfl, hl, fun c hc => ⟨hc, ?_⟩⟩
  rintro c' ⟨b0, b1, b2, rfl⟩
  refine ⟨rfl, .int b2, rfl, rfl, by decide, rfl, ?_⟩
  walk_at "ev"
  refine ⟨_, rfl, by decide, by decide, fun r r0 r1 => ?_⟩
  walk_at "ev"
  refine ⟨_, rfl, by decide, by decide, fun s s0 s1 => ?_⟩
  walk_at "ev"
  refine ⟨_, rfl, by decide, by decide, fun u u0 u1 => ?_⟩
  walk_at "ev"
  have four : ∀ z : Int, 1 ≤ z → z ≤ 40 → ∀ d ∈ ([.int (1 + r), .int (2 + s), .int (4 + u), .int z] : List D), ∃ i : Int, d = .int i ∧ 1 ≤ i ∧ i ≤ 40 := by
    intro z z1 z2 d hd
    simp only [List.mem_cons, List.not_mem_nil, or_false] at hd
    rcases hd with rfl | rfl | rfl | rfl
    · exact ⟨_, rfl, by omega, by omega⟩
    · exact ⟨_, rfl, by omega, by omega⟩
    · exact ⟨_, rfl, by omega, by omega⟩
    · exact ⟨_, rfl, z1, z2⟩
  split
  · exact law_loop _ _ _ (four 40 (by decide) (by decide)) _ _ _ _ _
  · exact law_loop _ _ _ (four 3 (by decide) (by decide)) _ _ _ _ _
end K15

set_option Elab.async false
set_option linter.all false
set_option maxRecDepth 100000
set_option maxHeartbeats 4000000
namespace K15
open PySem PySem.Spec PyProof.Rows L2 Zd
def topS (i : Nat) : Stmt := PySem.Challenge.pw_calledloose_k15_check_code.main.body.getD i (.Pass ⟨0, 0, 0, 0⟩)
def inS (st : Stmt) (j : Nat) : Stmt := match st with
  | .ClassDef _ _ _ b _ _ _ _ _ _ _ => b.getD j (.Pass ⟨0, 0, 0, 0⟩)
  | _ => .Pass ⟨0, 0, 0, 0⟩
abbrev R : PySem.W.OpenRow := PySem.W.OpenLaw.row PySem.Challenge.rw_calledloose_k15_check_code
def file : Str := R.prog.main.file
def xc_BadCode : XcD := ⟨"BadCode", ["place", "word"], "BadCode.__init__", defArgs (inS (topS 2) 0), defBody (inS (topS 2) 0), defScope (inS (topS 2) 0)⟩
def xt : XT := [("BadCode", ["place", "word"])]
theorem xt_cases {x : Str} {ps : List Str} (h : xt.lookup x = some ps) : (x = Str.ofString "BadCode" ∧ ps = [("place" : Str), ("word" : Str)]) := by
  unfold xt at h
  simp only [List.lookup_cons] at h
  cases q : x == ("BadCode" : Str) with
  | true =>
    rw [q] at h
    exact ⟨beq_iff_eq.mp q, (Option.some.inj h).symm⟩
  | false =>
  rw [q] at h
  dsimp only at h
  cases h
theorem xt_one {x : Str} {ps : List Str} (h : xt.lookup x = some ps) : x = Str.ofString "BadCode" ∧ ps = [("place" : Str), ("word" : Str)] := xt_cases h
structure Tx (K : PySem.W.Frag) (w : World) (mg : Str → Option Value) : Prop where
  m_abs : mg "abs" = none
  m_all : mg "all" = none
  m_bool : mg "bool" = none
  m_enumerate : mg "enumerate" = none
  m_int : mg "int" = none
  m_isinstance : mg "isinstance" = none
  m_len : mg "len" = none
  m_list : mg "list" = none
  m_max : mg "max" = none
  m_range : mg "range" = none
  m_sorted : mg "sorted" = none
  m_str : mg "str" = none
  m_tuple : mg "tuple" = none
  d_SIZES : TabOk K w mg "SIZES" tb_SIZES
  c_BadCode : mg "BadCode" = some (.ref (He.ga K "BadCode"))
  c_CallError : mg "CallError" = some (.ref (He.ga K "CallError"))
  s_BadCode : XcSay K file xc_BadCode
  k1_BadCode_BadCode : PySem.W.kitOne K (.ref (He.ga K "BadCode")) (.ref (He.ga K "BadCode")) = some true
  e_CallError : ∀ x C ps, xt.lookup x = some ps → mg x = some (.ref C) → PySem.W.exmOne K (.ref C) (.ref (He.ga K "CallError")) = some true
abbrev s__law_mint : Stmt := topS 14
abbrev s__law_is_number : Stmt := topS 21
abbrev s__law_wrong : Stmt := topS 22
abbrev s__law_due : Stmt := topS 23
abbrev s_is_integer : Stmt := topS 6
abbrev s_is_number : Stmt := topS 7
abbrev s_call_names : Stmt := topS 4
abbrev s_step_wrong : Stmt := topS 11
abbrev s_is_step : Stmt := topS 10
abbrev s_check_code : Stmt := topS 12
abbrev s__law_heard : Stmt := topS 24
abbrev s__law_asked : Stmt := topS 25
abbrev s__law_by_hand : Stmt := topS 29
abbrev s__law_press : Stmt := topS 15
abbrev s__law_any : Stmt := topS 16
abbrev s__law_book : Stmt := topS 17
abbrev s__law_letters : Stmt := topS 18
abbrev s__law_nodes : Stmt := topS 19
abbrev s__law_code : Stmt := topS 20
abbrev s__law_odd : Stmt := topS 26
abbrev s__law_spoilt : Stmt := topS 27
abbrev s__law_forms : Stmt := topS 28
abbrev s_law : Stmt := topS 30
theorem kw_check_code_thing_book {K : PySem.W.Frag} {f : Addr} {fd : FuncData} (F : FnP K "check_code" s_check_code f fd) : KwOk K fd ["book", "thing"] ["thing", "book"] [1, 0] :=
  kw_of F fun _ _ _ _ _ _ us hl => match us, hl with | [_, _], _ => rfl
section
variable {P : Program} {w : World} {K : PySem.W.Frag} {mg : Str → Option Value} {base : Heap} {J : Jr}
abbrev N__law_mint : List Str := ["script", "coin", "cell"]
theorem sc__law_mint : FnScope N__law_mint ["script"] (defScope s__law_mint) := ⟨rfl, rfl, rfl, by decide +kernel, rfl, by decide +kernel, by decide +kernel⟩
theorem body__law_mint {f : Addr} (T : Tx K w mg)  (cdv : Value) (A : Around) (outer : List Env) (s : Shared) (H : Hp) (E : XK) (hr : Room 0 (A.deeper (envOfC "_law_mint" (defScope s__law_mint) s.heap.objs.size f cdv))) :
    PSs (cxOf CX0 P w K mg base N__law_mint "_law_mint" (defScope s__law_mint) f cdv A outer s H E).nox (defBody s__law_mint) (tM K J (qmSeq (qSet 1 (qRD (qC (.int 15))))
    (qmSeq (qFor (qItD (qDR (qSlN 0 qO0 (qO1 (qC (.int 24)))))) (qgName 2) (qSeq (qSet 1 (qBin dAdd (qDR (qBin dAdd (qDR (qBinM dMul 1 (qC (.int 1000453)))) (qDR (qBin dMod (qDR (qCl cAbs (qCons (qDR (qCl cInt (qCons (qLook 2) qNil))) qNil))) (qDR (qBin dShl (qC (.int 1)) (qC (.int 2000)))))))) (qC (.int 30))))
    qNext))
    (qmRet (qnCons (qMove 1) (qnCons (qRD (qC (.int 0))) (qnCons (qBinM dMod 1 (qC (.int 2147483179))) qnNil))))))) :=
  (mk_seq (psd_set (i := 1) sc__law_mint.nd rfl (.inl rfl) (pr_of pd_int))
    (mk_seq (psd_for PassesOwn.never rfl (pit_d (pd_of (pr_slN (pv 0) pod_none (pod_some pd_int)))) (pgd_name (pg_name (i := 2) sc__law_mint.nd rfl (.inl rfl))) (pssd_cons (psd_set (i := 1) sc__law_mint.nd rfl (.inl rfl) (pr_bin op_dAdd (pd_of (pr_bin op_dAdd (pd_of (pr_binN op_dMul (pv 1) (pv_ofD pd_int))) (pv_of (pr_bin op_dMod (pd_of (pr_callB cl_abs (by rfl) T.m_abs (by decide +kernel) (plv_one (pv_of (pr_callTy cl_int (by rfl) T.m_int (by decide +kernel) (plv_one (pv_var (pv 2)))))))) (pv_of (pr_bin op_dShl pd_int (pv_ofD pd_int))))))) (pv_ofD pd_int)))
    pssd_nil))
    (mk_ret (pn_cons (pr_var (pv 1)) (pn_cons (pr_of pd_int) (pn_cons (pr_binN op_dMod (pv 1) (pv_ofD pd_int)) pn_nil))) rfl)))
theorem ok__law_mint {f : Addr} {fd : FuncData} (F : FnP K "_law_mint" s__law_mint f fd) (hx : mg "_law_mint" = some (.ref f)) (T : Tx K w mg)  : CalM P w K mg base 1 "_law_mint" s__law_mint ["script"] pp__law_mint :=
  makeD_ok (qs := q__law_mint) (J := jarN K good) F hx sc__law_mint (FunD.bindsN F fun _ _ _ _ _ _ us hl => match us, hl with | [_], _ => rfl) len__law_mint rfl (body__law_mint T ) spec__law_mint
abbrev N__law_is_number : List Str := ["thing", "below"]
theorem sc__law_is_number : FnScope N__law_is_number ["thing", "below"] (defScope s__law_is_number) := ⟨rfl, rfl, rfl, by decide +kernel, rfl, by decide +kernel, by decide +kernel⟩
theorem body__law_is_number {f : Addr} (T : Tx K w mg)  (cdv : Value) (A : Around) (outer : List Env) (s : Shared) (H : Hp) (E : XK) (hr : Room 0 (A.deeper (envOfC "_law_is_number" (defScope s__law_is_number) s.heap.objs.size f cdv))) :
    PSsd J (cxOf CX0 P w K mg base N__law_is_number "_law_is_number" (defScope s__law_is_number) f cdv A outer s H E).nox (defBody s__law_is_number) (qSeq (qRet (qRD (qAndV (qIsi "int" (qLook 0)) (qAndV (qNotV (qIsi "bool" (qLook 0))) (qDR (qChain dLe dLt (qC (.int 0)) (qVar 0) (qLook 1)))))))
    qNext) :=
  (pssd_cons (psd_ret (pr_of (pd_and (pd_isi (T := "int") (by rfl) T.m_isinstance (by decide +kernel) (by rfl) T.m_int (by decide +kernel) (pv_var (pv 0))) (pd_and (pd_not (pd_isi (T := "bool") (by rfl) T.m_isinstance (by decide +kernel) (by rfl) T.m_bool (by decide +kernel) (pv_var (pv 0)))) (pd_one (pd_of (pr_chain op_dLe op_dLt pd_int (pd_var (pv 0)) (pv_var (pv 1)))))))))
    pssd_nil)
theorem ok__law_is_number {f : Addr} {fd : FuncData} (F : FnP K "_law_is_number" s__law_is_number f fd) (hx : mg "_law_is_number" = some (.ref f)) (T : Tx K w mg) (hj : J.jx = none)  : CalD P w K mg base J 1 "_law_is_number" s__law_is_number ["thing", "below"] pp__law_is_number :=
  defD_ok (qs := q__law_is_number) hj F hx sc__law_is_number (FunD.bindsN F fun _ _ _ _ _ _ us hl => match us, hl with | [_, _], _ => rfl) len__law_is_number (body__law_is_number T ) spec__law_is_number
abbrev N__law_wrong : List Str := ["book", "code", "place", "one", "many", "name", "moves"]
theorem sc__law_wrong : FnScope N__law_wrong ["book", "code", "place"] (defScope s__law_wrong) := ⟨rfl, rfl, rfl, by decide +kernel, rfl, by decide +kernel, by decide +kernel⟩
theorem body__law_wrong {f : Addr} (T : Tx K w mg) (c__law_is_number : CalD P w K mg base J 1 "_law_is_number" s__law_is_number ["thing", "below"] pp__law_is_number) (cdv : Value) (A : Around) (outer : List Env) (s : Shared) (H : Hp) (E : XK) (hr : Room 1 (A.deeper (envOfC "_law_wrong" (defScope s__law_wrong) s.heap.objs.size f cdv))) :
    PSsd J (cxOf CX0 P w K mg base N__law_wrong "_law_wrong" (defScope s__law_wrong) f cdv A outer s H E).nox (defBody s__law_wrong) (qSeq (qSet 3 (qBinM dIx 1 (qLook 2)))
    (qSeq (qSet 4 (qDx [(.inr "do", (qC (.int 2))), (.inr "undo", (qC (.int 2))), (.inr "fork", (qC (.int 2))), (.inr "jump", (qC (.int 2))), (.inr "stop", (qC (.int 1)))]))
    (qSeq (qIfS (qOr (qTst (qOdIn 4 (fun b => !b) (qDR (qBinM dIx 3 (qC (.int 0)))))) (qTst (qBin dNe (qDR (qCl cLen (qCons (qLook 3) qNil))) (qDR (qRD (qOdGet 4 (qDR (qBinM dIx 3 (qC (.int 0)))))))))) (qSeq (qRet (qRD (qC (.str "word"))))
    qNext) qNext)
    (qSeq (qIfS (qTst (qBin dEq (qDR (qBinM dIx 3 (qC (.int 0)))) (qC (.str "stop")))) (qSeq (qRet (qRD (qC (.str ""))))
    qNext) qNext)
    (qSeq (qIfS (qTst (qBin (dIn fun b => b) (qDR (qBinM dIx 3 (qC (.int 0)))) (qDR (qLst (qCons (qC (.str "do")) (qCons (qC (.str "undo")) qNil)))))) (qSeq (qIfS (qOr (qNot (qTru (qIsi "str" (qDR (qBinM dIx 3 (qC (.int 1))))))) (qTst (qBin (dIn fun b => !b) (qDR (qBinM dIx 3 (qC (.int 1)))) (qDR (qLc (qItD (qVar 0)) (qgTup 2 (qgCons (qgName 5) (qgCons (qgName 6) qgNil))) qYes (qVar 5) [5, 6]))))) (qSeq (qRet (qRD (qC (.str "name"))))
    qNext) qNext)
    qNext) (qSeq (qIfS (qNot (qTru (qDR (qCall pp__law_is_number (qaD (qDR (qBinM dIx 3 (qC (.int 1)))) (qaD (qDR (qCl cLen (qCons (qLook 1) qNil))) qaNil)))))) (qSeq (qRet (qRD (qC (.str "place"))))
    qNext) qNext)
    qNext))
    (qSeq (qRet (qIf (qAnd (qTst (qBin dNe (qDR (qBinM dIx 3 (qC (.int 0)))) (qC (.str "jump")))) (qTst (qBinM dEq 2 (qDR (qBin dSub (qDR (qCl cLen (qCons (qLook 1) qNil))) (qC (.int 1))))))) (qRD (qC (.str "place"))) (qRD (qC (.str "")))))
    qNext)))))) :=
  (pssd_cons (psd_set (i := 3) sc__law_wrong.nd rfl (.inl rfl) (pr_ixN (pv 1) (pv_var (pv 2)) (fun _ _ => rfl)))
    (pssd_cons (psd_set (i := 4) sc__law_wrong.nd rfl (.inl rfl) (pr_dx (ts := [(.inr "do", (qC (.int 2))), (.inr "undo", (qC (.int 2))), (.inr "fork", (qC (.int 2))), (.inr "jump", (qC (.int 2))), (.inr "stop", (qC (.int 1)))]) (pps_cons pe_str pd_int (pps_cons pe_str pd_int (pps_cons pe_str pd_int (pps_cons pe_str pd_int (pps_cons pe_str pd_int pps_nil))))) (show ([.inr "do", .inr "undo", .inr "fork", .inr "jump", .inr "stop"] : List L2.Key).Nodup by decide) (by rfl)))
    (pssd_cons (psd_if (pb_w (pwd_or (pb_odnotin hr.units (pv 4) (pd_of (pr_ixN (pv 3) (pv_ofD pd_int) (fun _ _ => rfl))) (by rfl)) (pwd_or1 (pb_cmp (op_dNe hr.units) (nomark _) (pd_of (pr_callB cl_len (by rfl) T.m_len (by decide +kernel) (plv_one (pv_var (pv 3))))) (pv_of (pr_of (pd_odget hr.units (pv 4) (pd_of (pr_ixN (pv 3) (pv_ofD pd_int) (fun _ _ => rfl))) (fun _ _ => rfl)))))))) (pssd_cons (psd_ret (pr_of pd_str))
    pssd_nil) pssd_nil)
    (pssd_cons (psd_if (pb_cmp (op_dEq hr.units) (nomark _) (pd_of (pr_ixN (pv 3) (pv_ofD pd_int) (fun _ _ => rfl))) (pv_ofD pd_str)) (pssd_cons (psd_ret (pr_of pd_str))
    pssd_nil) pssd_nil)
    (pssd_cons (psd_if (pb_cmp op_dIn (by rfl) (pd_of (pr_ixN (pv 3) (pv_ofD pd_int) (fun _ _ => rfl))) (pv_of (pr_lst (pl_cons pd_str (pl_cons pd_str pl_nil)) rfl))) (pssd_cons (psd_if (pb_w (pwd_or (pb_not (pb_tru (pd_isi (T := "str") (by rfl) T.m_isinstance (by decide +kernel) (by rfl) T.m_str (by decide +kernel) (pv_of (pr_ixN (pv 3) (pv_ofD pd_int) (fun _ _ => rfl)))) (by intro _; rfl))) (pwd_or1 (pb_cmp op_dNotIn (by rfl) (pd_of (pr_ixN (pv 3) (pv_ofD pd_int) (fun _ _ => rfl))) (pv_of (pr_lc (own := [("name", 5), ("moves", 6)]) rfl sc__law_wrong.nd (pit_d (pd_var (pv 0))) (blkOk_by (N := N__law_wrong) (sc := defScope s__law_wrong) (by decide +kernel)) (fun s1 H1 C1 cl1 fp1 => (pgd_tup rfl (pgds_cons (pgd_name (pg_name (i := 5) sc__law_wrong.nd rfl (.inl rfl))) (pgds_cons (pgd_name (pg_name (i := 6) sc__law_wrong.nd rfl (.inl rfl))) pgds_nil)))) (fun s1 H1 C1 cl1 fp1 => ptsd_nil) (fun s1 H1 C1 cl1 fp1 => (pd_var (pv 5))) (by decide))))))) (pssd_cons (psd_ret (pr_of pd_str))
    pssd_nil) pssd_nil)
    pssd_nil) (pssd_cons (psd_if (pb_not (pb_tru (pd_of (pr_callC c__law_is_number hr (by decide) (by rfl) (paa_d (pd_of (pr_ixN (pv 3) (pv_ofD pd_int) (fun _ _ => rfl))) (paa_d (pd_of (pr_callB cl_len (by rfl) T.m_len (by decide +kernel) (plv_one (pv_var (pv 1))))) paa_nil)))) (by intro _; rfl))) (pssd_cons (psd_ret (pr_of pd_str))
    pssd_nil) pssd_nil)
    pssd_nil))
    (pssd_cons (psd_ret (pr_if (pb_w (pwd_and (pb_cmp (op_dNe hr.units) (nomark _) (pd_of (pr_ixN (pv 3) (pv_ofD pd_int) (fun _ _ => rfl))) (pv_ofD pd_str)) (pwd_and1 (pb_cmpN (op_dEq hr.units) (nomark _) (pv 2) (pv_of (pr_bin op_dSub (pd_of (pr_callB cl_len (by rfl) T.m_len (by decide +kernel) (plv_one (pv_var (pv 1))))) (pv_ofD pd_int))))))) (pr_of pd_str) (pr_of pd_str)))
    pssd_nil))))))
theorem ok__law_wrong {f : Addr} {fd : FuncData} (F : FnP K "_law_wrong" s__law_wrong f fd) (hx : mg "_law_wrong" = some (.ref f)) (T : Tx K w mg) (hj : J.jx = none) (c__law_is_number : CalD P w K mg base J 1 "_law_is_number" s__law_is_number ["thing", "below"] pp__law_is_number) : CalD P w K mg base J 2 "_law_wrong" s__law_wrong ["book", "code", "place"] pp__law_wrong :=
  defD_ok (qs := q__law_wrong) hj F hx sc__law_wrong (FunD.bindsN F fun _ _ _ _ _ _ us hl => match us, hl with | [_, _, _], _ => rfl) len__law_wrong (body__law_wrong T c__law_is_number) spec__law_wrong
abbrev N__law_due : List Str := ["book", "thing", "one", "place", "word"]
theorem sc__law_due : FnScope N__law_due ["book", "thing"] (defScope s__law_due) := ⟨rfl, rfl, rfl, by decide +kernel, rfl, by decide +kernel, by decide +kernel⟩
theorem body__law_due {f : Addr} (T : Tx K w mg) (c__law_wrong : CalD P w K mg base J 2 "_law_wrong" s__law_wrong ["book", "code", "place"] pp__law_wrong) (cdv : Value) (A : Around) (outer : List Env) (s : Shared) (H : Hp) (E : XK) (hr : Room 2 (A.deeper (envOfC "_law_due" (defScope s__law_due) s.heap.objs.size f cdv))) :
    PSsd J (cxOf CX0 P w K mg base N__law_due "_law_due" (defScope s__law_due) f cdv A outer s H E).nox (defBody s__law_due) (qSeq (qIfS (qOr (qNot (qTru (qIsi "tuple" (qLook 1)))) (qTst (qBin dEq (qDR (qCl cLen (qCons (qLook 1) qNil))) (qC (.int 0))))) (qSeq (qRet (qRD (qTup (qCons (qC (.str "refused")) (qCons (qNeg (qC (.int 1))) (qCons (qC (.str "shape")) qNil))))))
    qNext) qNext)
    (qSeq (qFor (qItD (qVar 1)) (qgName 2) (qSeq (qIfS (qOr (qNot (qTru (qIsi "tuple" (qLook 2)))) (qOr (qTst (qBin dEq (qDR (qCl cLen (qCons (qLook 2) qNil))) (qC (.int 0)))) (qNot (qTru (qIsi "str" (qDR (qBinM dIx 2 (qC (.int 0))))))))) (qSeq (qRet (qRD (qTup (qCons (qC (.str "refused")) (qCons (qNeg (qC (.int 1))) (qCons (qC (.str "shape")) qNil))))))
    qNext) qNext)
    qNext))
    (qSeq (qFor (qRng1 (qCons (qDR (qCl cLen (qCons (qLook 1) qNil))) qNil)) (qgName 3) (qSeq (qSet 4 (qCall pp__law_wrong (qaN 0 (qaN 1 (qaN 3 qaNil)))))
    (qSeq (qIfS (qTst (qBinM dNe 4 (qC (.str "")))) (qSeq (qRet (qRD (qTup (qCons (qC (.str "refused")) (qCons (qVar 3) (qCons (qVar 4) qNil))))))
    qNext) qNext)
    qNext)))
    (qSeq (qRet (qRD (qTup (qCons (qC (.str "told")) (qCons (qDR (qCl cLen (qCons (qLook 1) qNil))) qNil)))))
    qNext)))) :=
  (pssd_cons (psd_if (pb_w (pwd_or (pb_not (pb_tru (pd_isi (T := "tuple") (by rfl) T.m_isinstance (by decide +kernel) (by rfl) T.m_tuple (by decide +kernel) (pv_var (pv 1))) (by intro _; rfl))) (pwd_or1 (pb_cmp (op_dEq hr.units) (nomark _) (pd_of (pr_callB cl_len (by rfl) T.m_len (by decide +kernel) (plv_one (pv_var (pv 1))))) (pv_ofD pd_int))))) (pssd_cons (psd_ret (pr_of (pd_tup (pl_cons pd_str (pl_cons (pd_neg pd_int) (pl_cons pd_str pl_nil))) rfl)))
    pssd_nil) pssd_nil)
    (pssd_cons (psd_for PassesOwn.never rfl (pit_d (pd_var (pv 1))) (pgd_name (pg_name (i := 2) sc__law_due.nd rfl (.inl rfl))) (pssd_cons (psd_if (pb_w (pwd_or (pb_not (pb_tru (pd_isi (T := "tuple") (by rfl) T.m_isinstance (by decide +kernel) (by rfl) T.m_tuple (by decide +kernel) (pv_var (pv 2))) (by intro _; rfl))) (pwd_or (pb_cmp (op_dEq hr.units) (nomark _) (pd_of (pr_callB cl_len (by rfl) T.m_len (by decide +kernel) (plv_one (pv_var (pv 2))))) (pv_ofD pd_int)) (pwd_or1 (pb_not (pb_tru (pd_isi (T := "str") (by rfl) T.m_isinstance (by decide +kernel) (by rfl) T.m_str (by decide +kernel) (pv_of (pr_ixN (pv 2) (pv_ofD pd_int) (fun _ _ => rfl)))) (by intro _; rfl))))))) (pssd_cons (psd_ret (pr_of (pd_tup (pl_cons pd_str (pl_cons (pd_neg pd_int) (pl_cons pd_str pl_nil))) rfl)))
    pssd_nil) pssd_nil)
    pssd_nil))
    (pssd_cons (psd_for PassesOwn.never rfl (pit_r1 (by rfl) T.m_range (pl_cons (pd_of (pr_callB cl_len (by rfl) T.m_len (by decide +kernel) (plv_one (pv_var (pv 1))))) pl_nil)) (pgd_name (pg_name (i := 3) sc__law_due.nd rfl (.inl rfl))) (pssd_cons (psd_set (i := 4) sc__law_due.nd rfl (.inl rfl) (pr_callC c__law_wrong hr (by decide) (by rfl) (paa_n (pv 0) (paa_n (pv 1) (paa_n (pv 3) paa_nil)))))
    (pssd_cons (psd_if (pb_cmpN (op_dNe hr.units) (nomark _) (pv 4) (pv_ofD pd_str)) (pssd_cons (psd_ret (pr_of (pd_tup (pl_cons pd_str (pl_cons (pd_var (pv 3)) (pl_cons (pd_var (pv 4)) pl_nil))) rfl)))
    pssd_nil) pssd_nil)
    pssd_nil)))
    (pssd_cons (psd_ret (pr_of (pd_tup (pl_cons pd_str (pl_cons (pd_of (pr_callB cl_len (by rfl) T.m_len (by decide +kernel) (plv_one (pv_var (pv 1))))) pl_nil)) rfl)))
    pssd_nil))))
theorem ok__law_due {f : Addr} {fd : FuncData} (F : FnP K "_law_due" s__law_due f fd) (hx : mg "_law_due" = some (.ref f)) (T : Tx K w mg) (hj : J.jx = none) (c__law_wrong : CalD P w K mg base J 2 "_law_wrong" s__law_wrong ["book", "code", "place"] pp__law_wrong) : CalD P w K mg base J 3 "_law_due" s__law_due ["book", "thing"] pp__law_due :=
  defD_ok (qs := q__law_due) hj F hx sc__law_due (FunD.bindsN F fun _ _ _ _ _ _ us hl => match us, hl with | [_, _], _ => rfl) len__law_due (body__law_due T c__law_wrong) spec__law_due
abbrev N_is_integer : List Str := ["thing"]
theorem sc_is_integer : FnScope N_is_integer ["thing"] (defScope s_is_integer) := ⟨rfl, rfl, rfl, by decide +kernel, rfl, by decide +kernel, by decide +kernel⟩
theorem body_is_integer {f : Addr} (T : Tx K w mg)  (cdv : Value) (A : Around) (outer : List Env) (s : Shared) (H : Hp) (E : XK) (hr : Room 0 (A.deeper (envOfC "is_integer" (defScope s_is_integer) s.heap.objs.size f cdv))) :
    PSsd J (cxOf CX0 P w K mg base N_is_integer "is_integer" (defScope s_is_integer) f cdv A outer s H E).nox (defBody s_is_integer) (qSeq (qRet (qRD (qAndV (qIsi "int" (qLook 0)) (qNotV (qIsi "bool" (qLook 0))))))
    qNext) :=
  (pssd_cons (psd_ret (pr_of (pd_and (pd_isi (T := "int") (by rfl) T.m_isinstance (by decide +kernel) (by rfl) T.m_int (by decide +kernel) (pv_var (pv 0))) (pd_one (pd_not (pd_isi (T := "bool") (by rfl) T.m_isinstance (by decide +kernel) (by rfl) T.m_bool (by decide +kernel) (pv_var (pv 0))))))))
    pssd_nil)
theorem ok_is_integer {f : Addr} {fd : FuncData} (F : FnP K "is_integer" s_is_integer f fd) (hx : mg "is_integer" = some (.ref f)) (T : Tx K w mg) (hj : J.jx = none)  : CalD P w K mg base J 1 "is_integer" s_is_integer ["thing"] pp_is_integer :=
  defD_ok (qs := q_is_integer) hj F hx sc_is_integer (FunD.bindsN F fun _ _ _ _ _ _ us hl => match us, hl with | [_], _ => rfl) len_is_integer (body_is_integer T ) spec_is_integer
abbrev N_is_number : List Str := ["thing"]
theorem sc_is_number : FnScope N_is_number ["thing"] (defScope s_is_number) := ⟨rfl, rfl, rfl, by decide +kernel, rfl, by decide +kernel, by decide +kernel⟩
theorem body_is_number {f : Addr} (T : Tx K w mg) (c_is_integer : CalD P w K mg base J 1 "is_integer" s_is_integer ["thing"] pp_is_integer) (cdv : Value) (A : Around) (outer : List Env) (s : Shared) (H : Hp) (E : XK) (hr : Room 1 (A.deeper (envOfC "is_number" (defScope s_is_number) s.heap.objs.size f cdv))) :
    PSsd J (cxOf CX0 P w K mg base N_is_number "is_number" (defScope s_is_number) f cdv A outer s H E).nox (defBody s_is_number) (qSeq (qRet (qRD (qAndV (qDR (qCall pp_is_integer (qaN 0 qaNil))) (qDR (qBinM dGe 0 (qC (.int 0)))))))
    qNext) :=
  (pssd_cons (psd_ret (pr_of (pd_and (pd_of (pr_callC c_is_integer hr (by decide) (by rfl) (paa_n (pv 0) paa_nil))) (pd_one (pd_of (pr_cmpN op_dGe (nomark _) (pv 0) (pv_ofD pd_int)))))))
    pssd_nil)
theorem ok_is_number {f : Addr} {fd : FuncData} (F : FnP K "is_number" s_is_number f fd) (hx : mg "is_number" = some (.ref f)) (T : Tx K w mg) (hj : J.jx = none) (c_is_integer : CalD P w K mg base J 1 "is_integer" s_is_integer ["thing"] pp_is_integer) : CalD P w K mg base J 2 "is_number" s_is_number ["thing"] pp_is_number :=
  defD_ok (qs := q_is_number) hj F hx sc_is_number (FunD.bindsN F fun _ _ _ _ _ _ us hl => match us, hl with | [_], _ => rfl) len_is_number (body_is_number T c_is_integer) spec_is_number
abbrev N_call_names : List Str := ["book", "name", "moves"]
theorem sc_call_names : FnScope N_call_names ["book"] (defScope s_call_names) := ⟨rfl, rfl, rfl, by decide +kernel, rfl, by decide +kernel, by decide +kernel⟩
theorem body_call_names {f : Addr} (T : Tx K w mg)  (cdv : Value) (A : Around) (outer : List Env) (s : Shared) (H : Hp) (E : XK) (hr : Room 0 (A.deeper (envOfC "call_names" (defScope s_call_names) s.heap.objs.size f cdv))) :
    PSsd J (cxOf CX0 P w K mg base N_call_names "call_names" (defScope s_call_names) f cdv A outer s H E).nox (defBody s_call_names) (qSeq (qRet (qCl cTuple (qCons (qDR (qLc (qItD (qVar 0)) (qgTup 2 (qgCons (qgName 1) (qgCons (qgName 2) qgNil))) qYes (qVar 1) [1, 2])) qNil)))
    qNext) :=
  (pssd_cons (psd_ret (pr_callTy (cl_tuple rfl) (by rfl) T.m_tuple (by decide +kernel) (plv_one (pv_of (pr_lc (own := [("name", 1), ("moves", 2)]) rfl sc_call_names.nd (pit_d (pd_var (pv 0))) (blkOk_by (N := N_call_names) (sc := defScope s_call_names) (by decide +kernel)) (fun s1 H1 C1 cl1 fp1 => (pgd_tup rfl (pgds_cons (pgd_name (pg_name (i := 1) sc_call_names.nd rfl (.inl rfl))) (pgds_cons (pgd_name (pg_name (i := 2) sc_call_names.nd rfl (.inl rfl))) pgds_nil)))) (fun s1 H1 C1 cl1 fp1 => ptsd_nil) (fun s1 H1 C1 cl1 fp1 => (pd_var (pv 1))) (by decide))))))
    pssd_nil)
theorem ok_call_names {f : Addr} {fd : FuncData} (F : FnP K "call_names" s_call_names f fd) (hx : mg "call_names" = some (.ref f)) (T : Tx K w mg) (hj : J.jx = none)  : CalD P w K mg base J 1 "call_names" s_call_names ["book"] pp_call_names :=
  defD_ok (qs := q_call_names) hj F hx sc_call_names (FunD.bindsN F fun _ _ _ _ _ _ us hl => match us, hl with | [_], _ => rfl) len_call_names (body_call_names T ) spec_call_names
abbrev N_step_wrong : List Str := ["book", "step", "place", "many", "word"]
theorem sc_step_wrong : FnScope N_step_wrong ["book", "step", "place", "many"] (defScope s_step_wrong) := ⟨rfl, rfl, rfl, by decide +kernel, rfl, by decide +kernel, by decide +kernel⟩
theorem body_step_wrong {f : Addr} (T : Tx K w mg) (c_is_number : CalD P w K mg base J 2 "is_number" s_is_number ["thing"] pp_is_number) (c_call_names : CalD P w K mg base J 1 "call_names" s_call_names ["book"] pp_call_names) (cdv : Value) (A : Around) (outer : List Env) (s : Shared) (H : Hp) (E : XK) (hr : Room 2 (A.deeper (envOfC "step_wrong" (defScope s_step_wrong) s.heap.objs.size f cdv))) :
    PSsd J (cxOf CX0 P w K mg base N_step_wrong "step_wrong" (defScope s_step_wrong) f cdv A outer s H E).nox (defBody s_step_wrong) (qSeq (qSet 4 (qBinM dIx 1 (qC (.int 0))))
    (qSeq (qIfS (qOr (qTst (qKin tb_SIZES (fun b => !b) (qVar 4))) (qTst (qBin dNe (qDR (qCl cLen (qCons (qLook 1) qNil))) (qDR (qRD (qKget tb_SIZES (qVar 4))))))) (qSeq (qRet (qRD (qC (.str "word"))))
    qNext) qNext)
    (qSeq (qIfS (qAnd (qTst (qBinM (dIn fun b => b) 4 (qTup (qCons (qC (.str "do")) (qCons (qC (.str "undo")) qNil))))) (qNot (qAnd (qTru (qIsi "str" (qDR (qBinM dIx 1 (qC (.int 1)))))) (qTst (qBin (dIn fun b => b) (qDR (qBinM dIx 1 (qC (.int 1)))) (qDR (qCall pp_call_names (qaN 0 qaNil)))))))) (qSeq (qRet (qRD (qC (.str "name"))))
    qNext) qNext)
    (qSeq (qIfS (qAnd (qTst (qBinM (dIn fun b => b) 4 (qTup (qCons (qC (.str "fork")) (qCons (qC (.str "jump")) qNil))))) (qNot (qAnd (qTru (qDR (qCall pp_is_number (qaD (qDR (qBinM dIx 1 (qC (.int 1)))) qaNil)))) (qTst (qBin dLt (qDR (qBinM dIx 1 (qC (.int 1)))) (qLook 3)))))) (qSeq (qRet (qRD (qC (.str "place"))))
    qNext) qNext)
    (qSeq (qRet (qIf (qAnd (qTst (qBinM (dIn fun b => b) 4 (qTup (qCons (qC (.str "do")) (qCons (qC (.str "undo")) (qCons (qC (.str "fork")) qNil)))))) (qTst (qBinM dEq 2 (qDR (qBinM dSub 3 (qC (.int 1))))))) (qRD (qC (.str "place"))) (qRD (qC .none))))
    qNext))))) :=
  (pssd_cons (psd_set (i := 4) sc_step_wrong.nd rfl (.inl rfl) (pr_ixN (pv 1) (pv_ofD pd_int) (fun _ _ => rfl)))
    (pssd_cons (psd_if (pb_w (pwd_or (pb_knotin T.d_SIZES (by rfl) (pd_var (pv 4))) (pwd_or1 (pb_cmp (op_dNe hr.units) (nomark _) (pd_of (pr_callB cl_len (by rfl) T.m_len (by decide +kernel) (plv_one (pv_var (pv 1))))) (pv_of (pr_of (pd_kget T.d_SIZES (by rfl) (pd_var (pv 4)) (fun _ _ => rfl)))))))) (pssd_cons (psd_ret (pr_of pd_str))
    pssd_nil) pssd_nil)
    (pssd_cons (psd_if (pb_w (pwd_and (pb_cmpN op_dIn (by rfl) (pv 4) (pv_ofD (pd_tup (pl_cons pd_str (pl_cons pd_str pl_nil)) rfl))) (pwd_and1 (pb_not (pb_w (pwd_and (pb_tru (pd_isi (T := "str") (by rfl) T.m_isinstance (by decide +kernel) (by rfl) T.m_str (by decide +kernel) (pv_of (pr_ixN (pv 1) (pv_ofD pd_int) (fun _ _ => rfl)))) (by intro _; rfl)) (pwd_and1 (pb_cmp op_dIn (by rfl) (pd_of (pr_ixN (pv 1) (pv_ofD pd_int) (fun _ _ => rfl))) (pv_of (pr_callC c_call_names hr (by decide) (by rfl) (paa_n (pv 0) paa_nil))))))))))) (pssd_cons (psd_ret (pr_of pd_str))
    pssd_nil) pssd_nil)
    (pssd_cons (psd_if (pb_w (pwd_and (pb_cmpN op_dIn (by rfl) (pv 4) (pv_ofD (pd_tup (pl_cons pd_str (pl_cons pd_str pl_nil)) rfl))) (pwd_and1 (pb_not (pb_w (pwd_and (pb_tru (pd_of (pr_callC c_is_number hr (by decide) (by rfl) (paa_d (pd_of (pr_ixN (pv 1) (pv_ofD pd_int) (fun _ _ => rfl))) paa_nil))) (by intro _; rfl)) (pwd_and1 (pb_cmp op_dLt (nomark _) (pd_of (pr_ixN (pv 1) (pv_ofD pd_int) (fun _ _ => rfl))) (pv_var (pv 3)))))))))) (pssd_cons (psd_ret (pr_of pd_str))
    pssd_nil) pssd_nil)
    (pssd_cons (psd_ret (pr_if (pb_w (pwd_and (pb_cmpN op_dIn (by rfl) (pv 4) (pv_ofD (pd_tup (pl_cons pd_str (pl_cons pd_str (pl_cons pd_str pl_nil))) rfl))) (pwd_and1 (pb_cmpN (op_dEq hr.units) (nomark _) (pv 2) (pv_of (pr_binN op_dSub (pv 3) (pv_ofD pd_int))))))) (pr_of pd_str) (pr_of pd_non)))
    pssd_nil)))))
theorem ok_step_wrong {f : Addr} {fd : FuncData} (F : FnP K "step_wrong" s_step_wrong f fd) (hx : mg "step_wrong" = some (.ref f)) (T : Tx K w mg) (hj : J.jx = none) (c_is_number : CalD P w K mg base J 2 "is_number" s_is_number ["thing"] pp_is_number) (c_call_names : CalD P w K mg base J 1 "call_names" s_call_names ["book"] pp_call_names) : CalD P w K mg base J 3 "step_wrong" s_step_wrong ["book", "step", "place", "many"] pp_step_wrong :=
  defD_ok (qs := q_step_wrong) hj F hx sc_step_wrong (FunD.bindsN F fun _ _ _ _ _ _ us hl => match us, hl with | [_, _, _, _], _ => rfl) len_step_wrong (body_step_wrong T c_is_number c_call_names) spec_step_wrong
abbrev N_is_step : List Str := ["thing"]
theorem sc_is_step : FnScope N_is_step ["thing"] (defScope s_is_step) := ⟨rfl, rfl, rfl, by decide +kernel, rfl, by decide +kernel, by decide +kernel⟩
theorem body_is_step {f : Addr} (T : Tx K w mg)  (cdv : Value) (A : Around) (outer : List Env) (s : Shared) (H : Hp) (E : XK) (hr : Room 0 (A.deeper (envOfC "is_step" (defScope s_is_step) s.heap.objs.size f cdv))) :
    PSsd J (cxOf CX0 P w K mg base N_is_step "is_step" (defScope s_is_step) f cdv A outer s H E).nox (defBody s_is_step) (qSeq (qRet (qRD (qAndV (qIsi "tuple" (qLook 0)) (qAndV (qDR (qBin dGt (qDR (qCl cLen (qCons (qLook 0) qNil))) (qC (.int 0)))) (qIsi "str" (qDR (qBinM dIx 0 (qC (.int 0)))))))))
    qNext) :=
  (pssd_cons (psd_ret (pr_of (pd_and (pd_isi (T := "tuple") (by rfl) T.m_isinstance (by decide +kernel) (by rfl) T.m_tuple (by decide +kernel) (pv_var (pv 0))) (pd_and (pd_of (pr_cmp op_dGt (nomark _) (pd_of (pr_callB cl_len (by rfl) T.m_len (by decide +kernel) (plv_one (pv_var (pv 0))))) (pv_ofD pd_int))) (pd_one (pd_isi (T := "str") (by rfl) T.m_isinstance (by decide +kernel) (by rfl) T.m_str (by decide +kernel) (pv_of (pr_ixN (pv 0) (pv_ofD pd_int) (fun _ _ => rfl)))))))))
    pssd_nil)
theorem ok_is_step {f : Addr} {fd : FuncData} (F : FnP K "is_step" s_is_step f fd) (hx : mg "is_step" = some (.ref f)) (T : Tx K w mg) (hj : J.jx = none)  : CalD P w K mg base J 1 "is_step" s_is_step ["thing"] pp_is_step :=
  defD_ok (qs := q_is_step) hj F hx sc_is_step (FunD.bindsN F fun _ _ _ _ _ _ us hl => match us, hl with | [_], _ => rfl) len_is_step (body_is_step T ) spec_is_step
abbrev N_check_code : List Str := ["book", "thing", "place", "step", "word"]
theorem sc_check_code : FnScope N_check_code ["book", "thing"] (defScope s_check_code) := ⟨rfl, rfl, rfl, by decide +kernel, rfl, by decide +kernel, by decide +kernel⟩
theorem body_check_code {f : Addr} (T : Tx K w mg) (x_BadCode : XcOk P w K mg base "BadCode" ["place", "word"]) (c_step_wrong : CalD P w K mg base J 3 "step_wrong" s_step_wrong ["book", "step", "place", "many"] pp_step_wrong) (c_is_step : CalD P w K mg base J 1 "is_step" s_is_step ["thing"] pp_is_step) (cdv : Value) (A : Around) (outer : List Env) (s : Shared) (H : Hp) (E : XK) (hr : Room 3 (A.deeper (envOfC "check_code" (defScope s_check_code) s.heap.objs.size f cdv))) (tk : Takes (cxOf (L2.CX P w) P w K mg base N_check_code "check_code" (defScope s_check_code) f cdv A outer s H E) (fun cls d _ H => E cls d H)) (hp : PassesOwn (model P w) (cxOf (L2.CX P w) P w K mg base N_check_code "check_code" (defScope s_check_code) f cdv A outer s H E).A (cxOf (L2.CX P w) P w K mg base N_check_code "check_code" (defScope s_check_code) f cdv A outer s H E).env (cxOf (L2.CX P w) P w K mg base N_check_code "check_code" (defScope s_check_code) f cdv A outer s H E).xe) :
    PSsx J xt (fun cls d _ H => E cls d H) (cxOf (L2.CX P w) P w K mg base N_check_code "check_code" (defScope s_check_code) f cdv A outer s H E) (defBody s_check_code) (qSeq (qIfS (qOr (qNot (qTru (qIsi "tuple" (qLook 1)))) (qOr (qTst (qBin dEq (qDR (qCl cLen (qCons (qLook 1) qNil))) (qC (.int 0)))) (qNot (qTru (qDR (qCl cAll (qCons (qDR (qLc (qItD (qVar 1)) (qgName 3) qYes (qDR (qCall pp_is_step (qaN 3 qaNil))) [3])) qNil))))))) (qSeq (qRaise "BadCode" (qCons (qNeg (qC (.int 1))) (qCons (qC (.str "shape")) qNil)))
    qNext) qNext)
    (qSeq (qFor (qEnum (qVar 1)) (qgTup 2 (qgCons (qgName 2) (qgCons (qgName 3) qgNil))) (qSeq (qSet 4 (qCall pp_step_wrong (qaN 0 (qaN 3 (qaN 2 (qaD (qDR (qCl cLen (qCons (qLook 1) qNil))) qaNil))))))
    (qSeq (qIfS (qTst (qBinM (dIs fun b => !b) 4 (qC .none))) (qSeq (qRaise "BadCode" (qCons (qVar 2) (qCons (qVar 4) qNil)))
    qNext) qNext)
    qNext)))
    (qSeq (qRet (qCl cLen (qCons (qLook 1) qNil)))
    qNext))) :=
  (pssx_cons (psx_if (pb_w (pwd_or (pb_not (pb_tru (pd_isi (T := "tuple") (by rfl) T.m_isinstance (by decide +kernel) (by rfl) T.m_tuple (by decide +kernel) (pv_var (pv 1))) (by intro _; rfl))) (pwd_or (pb_cmp (op_dEq hr.units) (nomark _) (pd_of (pr_callB cl_len (by rfl) T.m_len (by decide +kernel) (plv_one (pv_var (pv 1))))) (pv_ofD pd_int)) (pwd_or1 (pb_not (pb_tru (pd_of (pr_callB (cl_all rfl) (by rfl) T.m_all (by decide +kernel) (plv_one (pv_of (pr_lc (own := [("step", 3)]) rfl sc_check_code.nd (pit_d (pd_var (pv 1))) (blkOk_by (N := N_check_code) (sc := defScope s_check_code) (by decide +kernel)) (fun s1 H1 C1 cl1 fp1 => (pgd_name (pg_name (i := 3) sc_check_code.nd rfl (.inl rfl)))) (fun s1 H1 C1 cl1 fp1 => ptsd_nil) (fun s1 H1 C1 cl1 fp1 => (pd_of (pr_callC c_is_step hr (by decide) (by rfl) (paa_n (pv 3) paa_nil)))) (by decide)))))) (by intro _; rfl))))))) (pssx_cons (psx_raise rfl tk x_BadCode (by decide) rfl (by decide) hr (by decide) (by rfl) (pl_cons (pd_neg pd_int) (pl_cons pd_str pl_nil)))
    pssx_nil) pssx_nil)
    (pssx_cons (psx_for hp rfl (pit_enum (by rfl) T.m_enumerate (pd_var (pv 1))) (pgd_tup rfl (pgds_cons (pgd_name (pg_name (i := 2) sc_check_code.nd rfl (.inl rfl))) (pgds_cons (pgd_name (pg_name (i := 3) sc_check_code.nd rfl (.inl rfl))) pgds_nil))) (pssx_cons (psx_lift (psd_set (i := 4) sc_check_code.nd rfl (.inl rfl) (pr_callC c_step_wrong hr (by decide) (by rfl) (paa_n (pv 0) (paa_n (pv 3) (paa_n (pv 2) (paa_d (pd_of (pr_callB cl_len (by rfl) T.m_len (by decide +kernel) (plv_one (pv_var (pv 1))))) paa_nil)))))))
    (pssx_cons (psx_if (pb_cmpN op_dIsN (nomark _) (pv 4) (pv_ofD pd_non)) (pssx_cons (psx_raise rfl tk x_BadCode (by decide) rfl (by decide) hr (by decide) (by rfl) (pl_cons (pd_var (pv 2)) (pl_cons (pd_var (pv 4)) pl_nil)))
    pssx_nil) pssx_nil)
    pssx_nil)))
    (pssx_cons (psx_lift (psd_ret (pr_callB cl_len (by rfl) T.m_len (by decide +kernel) (plv_one (pv_var (pv 1))))))
    pssx_nil)))
theorem ok_check_code {f : Addr} {fd : FuncData} (F : FnP K "check_code" s_check_code f fd) (hx : mg "check_code" = some (.ref f)) (T : Tx K w mg) (hj : J.jx = none) (x_BadCode : XcOk P w K mg base "BadCode" ["place", "word"]) (c_step_wrong : CalD P w K mg base J 3 "step_wrong" s_step_wrong ["book", "step", "place", "many"] pp_step_wrong) (c_is_step : CalD P w K mg base J 1 "is_step" s_is_step ["thing"] pp_is_step) : CalX P w K mg base xt J 4 "check_code" s_check_code ["book", "thing"] pp_check_code :=
  defX_ok (qs := q_check_code) hj F hx sc_check_code (FunD.bindsN F fun _ _ _ _ _ _ us hl => match us, hl with | [_, _], _ => rfl) len_check_code (body_check_code T x_BadCode c_step_wrong c_is_step) spec_check_code
abbrev N__law_heard : List Str := ["book", "thing", "named", "e"]
theorem sc__law_heard : FnScope N__law_heard ["book", "thing", "named"] (defScope s__law_heard) := ⟨rfl, rfl, rfl, by decide +kernel, rfl, by decide +kernel, by decide +kernel⟩
theorem body__law_heard {f : Addr} (T : Tx K w mg) (c_check_code : CalX P w K mg base xt J 4 "check_code" s_check_code ["book", "thing"] pp_check_code) (cdv : Value) (A : Around) (outer : List Env) (s : Shared) (H : Hp) (E : XK) (hr : Room 4 (A.deeper (envOfC "_law_heard" (defScope s__law_heard) s.heap.objs.size f cdv))) :
    PSsd J (cxOf CX0 P w K mg base N__law_heard "_law_heard" (defScope s__law_heard) f cdv A outer s H E).nox (defBody s__law_heard) (qSeq (qTry 3 (fun _ => true) (qSeq (qRet (qPairX (qC (.str "told")) (qIf (qTru (qVar 2)) (qCall pp_check_code (qReord [1, 0] 2 (qaN 1 (qaN 0 qaNil)))) (qCall pp_check_code (qaN 0 (qaN 1 qaNil))))))
    qNext) (sEx2 fun d0 d1 => (qSeq (qRet (qIf (qTru (qIsX 3 true)) (qRD (qTup (qCons (qC (.str "refused")) (qCons (qXf 3 d0) (qCons (qXf 3 d1) qNil))))) (qRD (qTup (qCons (qC (.str "other")) qNil)))))
    qNext)))
    qNext) :=
  (pssd_cons (psd_try_as (i := 3) (cv := (.ref (He.ga K "CallError"))) (qh := (sEx2 fun d0 d1 => (qSeq (qRet (qIf (qTru (qIsX 3 true)) (qRD (qTup (qCons (qC (.str "refused")) (qCons (qXf 3 d0) (qCons (qXf 3 d1) qNil))))) (qRD (qTup (qCons (qC (.str "other")) qNil)))))
    qNext))) (fun _ => true) rfl rfl sc__law_heard.nd rfl rfl ⟨by rfl, by decide, .inl T.c_CallError⟩ T.e_CallError (fun W pn xe tk hp =>
    (pssx_cons (psx_ret (prx_pair pd_str (prx_if (pb_tru (pd_var (pv 2)) (by intro _; rfl)) (prx_callK (ks := ["thing", "book"]) (idx := [1, 0]) tk c_check_code hr (by decide) (by rfl) (fun fd f G => kw_check_code_thing_book G) (pka_n (pv 1) (pka_n (pv 0) pka_nil)) (by decide) rfl) (prx_call tk c_check_code hr (by decide) (by rfl) (paa_n (pv 0) (paa_n (pv 1) paa_nil))))))
    pssx_nil)) (fun a oe pn n x C ps dd vs ds hz hfl hm hT _ hlen hds => by
      obtain ⟨rfl, rfl⟩ := xt_one hT
      obtain rfl : C = He.ga K "BadCode" := by
        have e := hm.symm.trans T.c_BadCode
        cases e
        rfl
      match vs, ds, hlen, dpa_len (hds fun _ => none), hds with
      | [v0, v1], [d0, d1], _, _, hds =>
        refine pssd_as (qSeq (qRet (qIf (qTru (qIsX 3 true)) (qRD (qTup (qCons (qC (.str "refused")) (qCons (qXf 3 d0) (qCons (qXf 3 d1) qNil))))) (qRD (qTup (qCons (qC (.str "other")) qNil)))))
    qNext) ?_ (rfl)
        exact (pssd_cons (psd_ret (pr_if (pb_tru (pd_isX (X := (cxOf CX0 P w K mg base N__law_heard "_law_heard" (defScope s__law_heard) f cdv A outer s H E).nox) (a := a) (dd := dd) (n := n) (fs := [("word", v1), ("place", v0)]) (b := true) T.s_BadCode.ec hz hfl (by rfl) T.m_isinstance (by decide +kernel) (pv 3) (pe_glob (v := .ref (He.ga K "BadCode")) (by rfl) T.c_BadCode rfl) (fun u h => h) T.k1_BadCode_BadCode) (by intro _; rfl)) (pr_of (pd_tup (pl_cons pd_str (pl_cons (pd_xf T.s_BadCode.xf (T.s_BadCode.no "place" (by decide)) hz hfl (pv 3) rfl (fun H0 => dqa_at (hds H0) 0 rfl rfl)) (pl_cons (pd_xf T.s_BadCode.xf (T.s_BadCode.no "word" (by decide)) hz hfl (pv 3) rfl (fun H0 => dqa_at (hds H0) 1 rfl rfl)) pl_nil))) rfl)) (pr_of (pd_tup (pl_cons pd_str pl_nil) rfl))))
    pssd_nil)))
    pssd_nil)
theorem ok__law_heard {f : Addr} {fd : FuncData} (F : FnP K "_law_heard" s__law_heard f fd) (hx : mg "_law_heard" = some (.ref f)) (T : Tx K w mg) (hj : J.jx = none) (c_check_code : CalX P w K mg base xt J 4 "check_code" s_check_code ["book", "thing"] pp_check_code) : CalD P w K mg base J 5 "_law_heard" s__law_heard ["book", "thing", "named"] pp__law_heard :=
  defD_ok (qs := q__law_heard) hj F hx sc__law_heard (FunD.bindsN F fun _ _ _ _ _ _ us hl => match us, hl with | [_, _, _], _ => rfl) len__law_heard (body__law_heard T c_check_code) spec__law_heard
abbrev N__law_asked : List Str := ["book", "thing", "named", "told", "due"]
theorem sc__law_asked : FnScope N__law_asked ["book", "thing", "named"] (defScope s__law_asked) := ⟨rfl, rfl, rfl, by decide +kernel, rfl, by decide +kernel, by decide +kernel⟩
theorem body__law_asked {f : Addr} (T : Tx K w mg) (c__law_heard : CalD P w K mg base J 5 "_law_heard" s__law_heard ["book", "thing", "named"] pp__law_heard) (c__law_due : CalD P w K mg base J 3 "_law_due" s__law_due ["book", "thing"] pp__law_due) (cdv : Value) (A : Around) (outer : List Env) (s : Shared) (H : Hp) (E : XK) (hr : Room 5 (A.deeper (envOfC "_law_asked" (defScope s__law_asked) s.heap.objs.size f cdv))) :
    PSsd J (cxOf CX0 P w K mg base N__law_asked "_law_asked" (defScope s__law_asked) f cdv A outer s H E).nox (defBody s__law_asked) (qSeq (qSet 3 (qCall pp__law_heard (qaN 0 (qaN 1 (qaN 2 qaNil)))))
    (qSeq (qSet 4 (qCall pp__law_due (qaN 0 (qaN 1 qaNil))))
    (qSeq (qIfS (qOr (qTst (qBin dNe (qDR (qCl cLen (qCons (qLook 3) qNil))) (qDR (qCl cLen (qCons (qLook 4) qNil))))) (qTst (qBin dNe (qDR (qBinM dIx 3 (qC (.int 0)))) (qDR (qBinM dIx 4 (qC (.int 0))))))) (qSeq (qRet (qRD (qC (.bool false))))
    qNext) qNext)
    (qSeq (qIfS (qOr (qNot (qTru (qIsi "int" (qDR (qBinM dIx 3 (qC (.int 1))))))) (qOr (qTru (qIsi "bool" (qDR (qBinM dIx 3 (qC (.int 1)))))) (qTst (qBin dNe (qDR (qBinM dIx 3 (qC (.int 1)))) (qDR (qBinM dIx 4 (qC (.int 1)))))))) (qSeq (qRet (qRD (qC (.bool false))))
    qNext) qNext)
    (qSeq (qRet (qRD (qOrV (qDR (qBin dEq (qDR (qCl cLen (qCons (qLook 4) qNil))) (qC (.int 2)))) (qAndV (qIsi "str" (qDR (qBinM dIx 3 (qC (.int 2))))) (qDR (qBin dEq (qDR (qBinM dIx 3 (qC (.int 2)))) (qDR (qBinM dIx 4 (qC (.int 2))))))))))
    qNext))))) :=
  (pssd_cons (psd_set (i := 3) sc__law_asked.nd rfl (.inl rfl) (pr_callC c__law_heard hr (by decide) (by rfl) (paa_n (pv 0) (paa_n (pv 1) (paa_n (pv 2) paa_nil)))))
    (pssd_cons (psd_set (i := 4) sc__law_asked.nd rfl (.inl rfl) (pr_callC c__law_due hr (by decide) (by rfl) (paa_n (pv 0) (paa_n (pv 1) paa_nil))))
    (pssd_cons (psd_if (pb_w (pwd_or (pb_cmp (op_dNe hr.units) (nomark _) (pd_of (pr_callB cl_len (by rfl) T.m_len (by decide +kernel) (plv_one (pv_var (pv 3))))) (pv_of (pr_callB cl_len (by rfl) T.m_len (by decide +kernel) (plv_one (pv_var (pv 4)))))) (pwd_or1 (pb_cmp (op_dNe hr.units) (nomark _) (pd_of (pr_ixN (pv 3) (pv_ofD pd_int) (fun _ _ => rfl))) (pv_of (pr_ixN (pv 4) (pv_ofD pd_int) (fun _ _ => rfl))))))) (pssd_cons (psd_ret (pr_of pd_bl))
    pssd_nil) pssd_nil)
    (pssd_cons (psd_if (pb_w (pwd_or (pb_not (pb_tru (pd_isi (T := "int") (by rfl) T.m_isinstance (by decide +kernel) (by rfl) T.m_int (by decide +kernel) (pv_of (pr_ixN (pv 3) (pv_ofD pd_int) (fun _ _ => rfl)))) (by intro _; rfl))) (pwd_or (pb_tru (pd_isi (T := "bool") (by rfl) T.m_isinstance (by decide +kernel) (by rfl) T.m_bool (by decide +kernel) (pv_of (pr_ixN (pv 3) (pv_ofD pd_int) (fun _ _ => rfl)))) (by intro _; rfl)) (pwd_or1 (pb_cmp (op_dNe hr.units) (nomark _) (pd_of (pr_ixN (pv 3) (pv_ofD pd_int) (fun _ _ => rfl))) (pv_of (pr_ixN (pv 4) (pv_ofD pd_int) (fun _ _ => rfl)))))))) (pssd_cons (psd_ret (pr_of pd_bl))
    pssd_nil) pssd_nil)
    (pssd_cons (psd_ret (pr_of (pd_or (pd_of (pr_cmp (op_dEq hr.units) (nomark _) (pd_of (pr_callB cl_len (by rfl) T.m_len (by decide +kernel) (plv_one (pv_var (pv 4))))) (pv_ofD pd_int))) (pd_one (pd_and (pd_isi (T := "str") (by rfl) T.m_isinstance (by decide +kernel) (by rfl) T.m_str (by decide +kernel) (pv_of (pr_ixN (pv 3) (pv_ofD pd_int) (fun _ _ => rfl)))) (pd_one (pd_of (pr_cmp (op_dEq hr.units) (nomark _) (pd_of (pr_ixN (pv 3) (pv_ofD pd_int) (fun _ _ => rfl))) (pv_of (pr_ixN (pv 4) (pv_ofD pd_int) (fun _ _ => rfl)))))))))))
    pssd_nil)))))
theorem ok__law_asked {f : Addr} {fd : FuncData} (F : FnP K "_law_asked" s__law_asked f fd) (hx : mg "_law_asked" = some (.ref f)) (T : Tx K w mg) (hj : J.jx = none) (c__law_heard : CalD P w K mg base J 5 "_law_heard" s__law_heard ["book", "thing", "named"] pp__law_heard) (c__law_due : CalD P w K mg base J 3 "_law_due" s__law_due ["book", "thing"] pp__law_due) : CalD P w K mg base J 6 "_law_asked" s__law_asked ["book", "thing", "named"] pp__law_asked :=
  defD_ok (qs := q__law_asked) hj F hx sc__law_asked (FunD.bindsN F fun _ _ _ _ _ _ us hl => match us, hl with | [_, _, _], _ => rfl) len__law_asked (body__law_asked T c__law_heard c__law_due) spec__law_asked
abbrev N__law_by_hand : List Str := ["book", "rows", "thing", "due"]
theorem sc__law_by_hand : FnScope N__law_by_hand [] (defScope s__law_by_hand) := ⟨rfl, rfl, rfl, by decide +kernel, rfl, by decide +kernel, by decide +kernel⟩
theorem body__law_by_hand {f : Addr} (T : Tx K w mg) (c__law_due : CalD P w K mg base J 3 "_law_due" s__law_due ["book", "thing"] pp__law_due) (c__law_asked : CalD P w K mg base J 6 "_law_asked" s__law_asked ["book", "thing", "named"] pp__law_asked) (cdv : Value) (A : Around) (outer : List Env) (s : Shared) (H : Hp) (E : XK) (hr : Room 6 (A.deeper (envOfC "_law_by_hand" (defScope s__law_by_hand) s.heap.objs.size f cdv))) :
    PSsd J (cxOf CX0 P w K mg base N__law_by_hand "_law_by_hand" (defScope s__law_by_hand) f cdv A outer s H E).nox (defBody s__law_by_hand) (qSeq (qSet 0 (qRD (qTup (qCons (qTup (qCons (qC (.str "a")) (qCons (qTup (qCons (qC (.str "turn")) qNil)) qNil))) (qCons (qTup (qCons (qC (.str "b")) (qCons (qTup (qCons (qC (.str "twist")) qNil)) qNil))) qNil)))))
    (qSeq (qSet 1 (qLst (qCons (qTup (qCons (qTup (qCons (qTup (qCons (qC (.str "stop")) qNil)) qNil)) (qCons (qTup (qCons (qC (.str "told")) (qCons (qC (.int 1)) qNil))) qNil))) (qCons (qTup (qCons (qTup (qCons (qTup (qCons (qC (.str "jump")) (qCons (qC (.int 0)) qNil))) qNil)) (qCons (qTup (qCons (qC (.str "told")) (qCons (qC (.int 1)) qNil))) qNil))) (qCons (qTup (qCons (qTup (qCons (qTup (qCons (qC (.str "fork")) (qCons (qC (.int 1)) qNil))) (qCons (qTup (qCons (qC (.str "do")) (qCons (qC (.str "a")) qNil))) (qCons (qTup (qCons (qC (.str "undo")) (qCons (qC (.str "b")) qNil))) (qCons (qTup (qCons (qC (.str "jump")) (qCons (qC (.int 0)) qNil))) (qCons (qTup (qCons (qC (.str "stop")) qNil)) qNil)))))) (qCons (qTup (qCons (qC (.str "told")) (qCons (qC (.int 5)) qNil))) qNil))) qNil)))))
    (qSeq (qSet 1 (qBinM dAdd 1 (qDR (qLst (qCons (qTup (qCons (qTup (qCons (qTup (qCons (qC (.str "do")) (qCons (qC (.str "a")) qNil))) qNil)) (qCons (qTup (qCons (qC (.str "refused")) (qCons (qC (.int 0)) (qCons (qC (.str "place")) qNil)))) qNil))) (qCons (qTup (qCons (qTup (qCons (qTup (qCons (qC (.str "do")) (qCons (qC (.str "c")) qNil))) qNil)) (qCons (qTup (qCons (qC (.str "refused")) (qCons (qC (.int 0)) (qCons (qC (.str "name")) qNil)))) qNil))) (qCons (qTup (qCons (qTup (qCons (qTup (qCons (qC (.str "fork")) (qCons (qC (.int 0)) qNil))) qNil)) (qCons (qTup (qCons (qC (.str "refused")) (qCons (qC (.int 0)) (qCons (qC (.str "place")) qNil)))) qNil))) qNil)))))))
    (qSeq (qSet 1 (qBinM dAdd 1 (qDR (qLst (qCons (qTup (qCons (qTup (qCons (qTup (qCons (qC (.str "jump")) (qCons (qC (.int 1)) qNil))) qNil)) (qCons (qTup (qCons (qC (.str "refused")) (qCons (qC (.int 0)) (qCons (qC (.str "place")) qNil)))) qNil))) (qCons (qTup (qCons (qTup (qCons (qTup (qCons (qC (.str "fork")) (qCons (qC (.int 2)) qNil))) (qCons (qTup (qCons (qC (.str "stop")) qNil)) qNil))) (qCons (qTup (qCons (qC (.str "refused")) (qCons (qC (.int 0)) (qCons (qC (.str "place")) qNil)))) qNil))) (qCons (qTup (qCons (qTup (qCons (qTup (qCons (qC (.str "fork")) (qCons (qC (.bool true)) qNil))) (qCons (qTup (qCons (qC (.str "stop")) qNil)) qNil))) (qCons (qTup (qCons (qC (.str "refused")) (qCons (qC (.int 0)) (qCons (qC (.str "place")) qNil)))) qNil))) qNil)))))))
    (qSeq (qSet 1 (qBinM dAdd 1 (qDR (qLst (qCons (qTup (qCons (qTup (qCons (qTup (qCons (qC (.str "do")) (qCons (qC (.str "a")) (qCons (qC (.int 0)) qNil)))) (qCons (qTup (qCons (qC (.str "do")) (qCons (qC (.str "c")) qNil))) qNil))) (qCons (qTup (qCons (qC (.str "refused")) (qCons (qC (.int 0)) (qCons (qC (.str "word")) qNil)))) qNil))) (qCons (qTup (qCons (qTup (qCons (qTup (qCons (qC (.str "do")) (qCons (qC (.str "c")) qNil))) (qCons (qTup (qCons (qC (.str "halt")) qNil)) qNil))) (qCons (qTup (qCons (qC (.str "refused")) (qCons (qC (.int 0)) (qCons (qC (.str "name")) qNil)))) qNil))) (qCons (qTup (qCons (qTup (qCons (qTup (qCons (qC (.str "stop")) qNil)) (qCons (qTup (qCons (qC (.str "undo")) (qCons (qC (.str "b")) qNil))) qNil))) (qCons (qTup (qCons (qC (.str "refused")) (qCons (qC (.int 1)) (qCons (qC (.str "place")) qNil)))) qNil))) qNil)))))))
    (qSeq (qSet 1 (qBinM dAdd 1 (qDR (qLst (qCons (qTup (qCons (qTup (qCons (qTup (qCons (qC (.str "halt")) qNil)) (qCons (qTup qNil) qNil))) (qCons (qTup (qCons (qC (.str "refused")) (qCons (qNeg (qC (.int 1))) (qCons (qC (.str "shape")) qNil)))) qNil))) (qCons (qTup (qCons (qTup (qCons (qTup (qCons (qC (.str "do")) (qCons (qC (.str "c")) qNil))) (qCons (qDR (qLst (qCons (qC (.str "stop")) qNil))) qNil))) (qCons (qTup (qCons (qC (.str "refused")) (qCons (qNeg (qC (.int 1))) (qCons (qC (.str "shape")) qNil)))) qNil))) (qCons (qTup (qCons (qDR (qLst (qCons (qTup (qCons (qC (.str "stop")) qNil)) qNil))) (qCons (qTup (qCons (qC (.str "refused")) (qCons (qNeg (qC (.int 1))) (qCons (qC (.str "shape")) qNil)))) qNil))) qNil)))))))
    (qSeq (qSet 1 (qBinM dAdd 1 (qDR (qLst (qCons (qTup (qCons (qTup (qCons (qTup (qCons (qC (.str "stop")) (qCons (qC (.int 0)) qNil))) qNil)) (qCons (qTup (qCons (qC (.str "refused")) (qCons (qC (.int 0)) (qCons (qC (.str "word")) qNil)))) qNil))) (qCons (qTup (qCons (qTup (qCons (qTup (qCons (qC (.str "jump")) (qCons (qC (.str "0")) qNil))) (qCons (qTup (qCons (qC (.str "stop")) qNil)) qNil))) (qCons (qTup (qCons (qC (.str "refused")) (qCons (qC (.int 0)) (qCons (qC (.str "place")) qNil)))) qNil))) (qCons (qTup (qCons (qTup (qCons (qTup (qCons (qC (.str "stop")) qNil)) (qCons (qTup (qCons (qC (.str "stop")) qNil)) (qCons (qTup (qCons (qC (.int 1)) qNil)) qNil)))) (qCons (qTup (qCons (qC (.str "refused")) (qCons (qNeg (qC (.int 1))) (qCons (qC (.str "shape")) qNil)))) qNil))) qNil)))))))
    (qSeq (qSet 1 (qBinM dAdd 1 (qDR (qLst (qCons (qTup (qCons (qTup (qCons (qTup (qCons (qC (.str "do")) (qCons (qC .none) qNil))) (qCons (qTup (qCons (qC (.str "stop")) qNil)) qNil))) (qCons (qTup (qCons (qC (.str "refused")) (qCons (qC (.int 0)) (qCons (qC (.str "name")) qNil)))) qNil))) (qCons (qTup (qCons (qTup (qCons (qTup (qCons (qC (.str "jump")) (qCons (qNeg (qC (.int 1))) qNil))) (qCons (qTup (qCons (qC (.str "stop")) qNil)) qNil))) (qCons (qTup (qCons (qC (.str "refused")) (qCons (qC (.int 0)) (qCons (qC (.str "place")) qNil)))) qNil))) (qCons (qTup (qCons (qTup (qCons (qTup (qCons (qC (.str "fork")) (qCons (qC (.int 1)) qNil))) (qCons (qTup (qCons (qC (.str "fork")) (qCons (qC (.int 0)) qNil))) qNil))) (qCons (qTup (qCons (qC (.str "refused")) (qCons (qC (.int 1)) (qCons (qC (.str "place")) qNil)))) qNil))) qNil)))))))
    (qSeq (qFor (qItD (qVar 1)) (qgTup 2 (qgCons (qgName 2) (qgCons (qgName 3) qgNil))) (qSeq (qIfS (qOr (qTst (qBin dNe (qDR (qCall pp__law_due (qaN 0 (qaN 2 qaNil)))) (qLook 3))) (qNot (qTru (qDR (qCall pp__law_asked (qaN 0 (qaN 2 (qaD (qC (.bool false)) qaNil)))))))) (qSeq (qRet (qRD (qC (.bool false))))
    qNext) qNext)
    qNext))
    (qSeq (qRet (qRD (qC (.bool true))))
    qNext)))))))))) :=
  (pssd_cons (psd_set (i := 0) sc__law_by_hand.nd rfl (.inl rfl) (pr_of (pd_tup (pl_cons (pd_tup (pl_cons pd_str (pl_cons (pd_tup (pl_cons pd_str pl_nil) rfl) pl_nil)) rfl) (pl_cons (pd_tup (pl_cons pd_str (pl_cons (pd_tup (pl_cons pd_str pl_nil) rfl) pl_nil)) rfl) pl_nil)) rfl)))
    (pssd_cons (psd_set (i := 1) sc__law_by_hand.nd rfl (.inl rfl) (pr_lst (pl_cons (pd_tup (pl_cons (pd_tup (pl_cons (pd_tup (pl_cons pd_str pl_nil) rfl) pl_nil) rfl) (pl_cons (pd_tup (pl_cons pd_str (pl_cons pd_int pl_nil)) rfl) pl_nil)) rfl) (pl_cons (pd_tup (pl_cons (pd_tup (pl_cons (pd_tup (pl_cons pd_str (pl_cons pd_int pl_nil)) rfl) pl_nil) rfl) (pl_cons (pd_tup (pl_cons pd_str (pl_cons pd_int pl_nil)) rfl) pl_nil)) rfl) (pl_cons (pd_tup (pl_cons (pd_tup (pl_cons (pd_tup (pl_cons pd_str (pl_cons pd_int pl_nil)) rfl) (pl_cons (pd_tup (pl_cons pd_str (pl_cons pd_str pl_nil)) rfl) (pl_cons (pd_tup (pl_cons pd_str (pl_cons pd_str pl_nil)) rfl) (pl_cons (pd_tup (pl_cons pd_str (pl_cons pd_int pl_nil)) rfl) (pl_cons (pd_tup (pl_cons pd_str pl_nil) rfl) pl_nil))))) rfl) (pl_cons (pd_tup (pl_cons pd_str (pl_cons pd_int pl_nil)) rfl) pl_nil)) rfl) pl_nil))) rfl))
    (pssd_cons (psd_set (i := 1) sc__law_by_hand.nd rfl (.inl rfl) (pr_binN op_dAdd (pv 1) (pv_of (pr_lst (pl_cons (pd_tup (pl_cons (pd_tup (pl_cons (pd_tup (pl_cons pd_str (pl_cons pd_str pl_nil)) rfl) pl_nil) rfl) (pl_cons (pd_tup (pl_cons pd_str (pl_cons pd_int (pl_cons pd_str pl_nil))) rfl) pl_nil)) rfl) (pl_cons (pd_tup (pl_cons (pd_tup (pl_cons (pd_tup (pl_cons pd_str (pl_cons pd_str pl_nil)) rfl) pl_nil) rfl) (pl_cons (pd_tup (pl_cons pd_str (pl_cons pd_int (pl_cons pd_str pl_nil))) rfl) pl_nil)) rfl) (pl_cons (pd_tup (pl_cons (pd_tup (pl_cons (pd_tup (pl_cons pd_str (pl_cons pd_int pl_nil)) rfl) pl_nil) rfl) (pl_cons (pd_tup (pl_cons pd_str (pl_cons pd_int (pl_cons pd_str pl_nil))) rfl) pl_nil)) rfl) pl_nil))) rfl))))
    (pssd_cons (psd_set (i := 1) sc__law_by_hand.nd rfl (.inl rfl) (pr_binN op_dAdd (pv 1) (pv_of (pr_lst (pl_cons (pd_tup (pl_cons (pd_tup (pl_cons (pd_tup (pl_cons pd_str (pl_cons pd_int pl_nil)) rfl) pl_nil) rfl) (pl_cons (pd_tup (pl_cons pd_str (pl_cons pd_int (pl_cons pd_str pl_nil))) rfl) pl_nil)) rfl) (pl_cons (pd_tup (pl_cons (pd_tup (pl_cons (pd_tup (pl_cons pd_str (pl_cons pd_int pl_nil)) rfl) (pl_cons (pd_tup (pl_cons pd_str pl_nil) rfl) pl_nil)) rfl) (pl_cons (pd_tup (pl_cons pd_str (pl_cons pd_int (pl_cons pd_str pl_nil))) rfl) pl_nil)) rfl) (pl_cons (pd_tup (pl_cons (pd_tup (pl_cons (pd_tup (pl_cons pd_str (pl_cons pd_bl pl_nil)) rfl) (pl_cons (pd_tup (pl_cons pd_str pl_nil) rfl) pl_nil)) rfl) (pl_cons (pd_tup (pl_cons pd_str (pl_cons pd_int (pl_cons pd_str pl_nil))) rfl) pl_nil)) rfl) pl_nil))) rfl))))
    (pssd_cons (psd_set (i := 1) sc__law_by_hand.nd rfl (.inl rfl) (pr_binN op_dAdd (pv 1) (pv_of (pr_lst (pl_cons (pd_tup (pl_cons (pd_tup (pl_cons (pd_tup (pl_cons pd_str (pl_cons pd_str (pl_cons pd_int pl_nil))) rfl) (pl_cons (pd_tup (pl_cons pd_str (pl_cons pd_str pl_nil)) rfl) pl_nil)) rfl) (pl_cons (pd_tup (pl_cons pd_str (pl_cons pd_int (pl_cons pd_str pl_nil))) rfl) pl_nil)) rfl) (pl_cons (pd_tup (pl_cons (pd_tup (pl_cons (pd_tup (pl_cons pd_str (pl_cons pd_str pl_nil)) rfl) (pl_cons (pd_tup (pl_cons pd_str pl_nil) rfl) pl_nil)) rfl) (pl_cons (pd_tup (pl_cons pd_str (pl_cons pd_int (pl_cons pd_str pl_nil))) rfl) pl_nil)) rfl) (pl_cons (pd_tup (pl_cons (pd_tup (pl_cons (pd_tup (pl_cons pd_str pl_nil) rfl) (pl_cons (pd_tup (pl_cons pd_str (pl_cons pd_str pl_nil)) rfl) pl_nil)) rfl) (pl_cons (pd_tup (pl_cons pd_str (pl_cons pd_int (pl_cons pd_str pl_nil))) rfl) pl_nil)) rfl) pl_nil))) rfl))))
    (pssd_cons (psd_set (i := 1) sc__law_by_hand.nd rfl (.inl rfl) (pr_binN op_dAdd (pv 1) (pv_of (pr_lst (pl_cons (pd_tup (pl_cons (pd_tup (pl_cons (pd_tup (pl_cons pd_str pl_nil) rfl) (pl_cons (pd_tup pl_nil rfl) pl_nil)) rfl) (pl_cons (pd_tup (pl_cons pd_str (pl_cons (pd_neg pd_int) (pl_cons pd_str pl_nil))) rfl) pl_nil)) rfl) (pl_cons (pd_tup (pl_cons (pd_tup (pl_cons (pd_tup (pl_cons pd_str (pl_cons pd_str pl_nil)) rfl) (pl_cons (pd_of (pr_lst (pl_cons pd_str pl_nil) rfl)) pl_nil)) rfl) (pl_cons (pd_tup (pl_cons pd_str (pl_cons (pd_neg pd_int) (pl_cons pd_str pl_nil))) rfl) pl_nil)) rfl) (pl_cons (pd_tup (pl_cons (pd_of (pr_lst (pl_cons (pd_tup (pl_cons pd_str pl_nil) rfl) pl_nil) rfl)) (pl_cons (pd_tup (pl_cons pd_str (pl_cons (pd_neg pd_int) (pl_cons pd_str pl_nil))) rfl) pl_nil)) rfl) pl_nil))) rfl))))
    (pssd_cons (psd_set (i := 1) sc__law_by_hand.nd rfl (.inl rfl) (pr_binN op_dAdd (pv 1) (pv_of (pr_lst (pl_cons (pd_tup (pl_cons (pd_tup (pl_cons (pd_tup (pl_cons pd_str (pl_cons pd_int pl_nil)) rfl) pl_nil) rfl) (pl_cons (pd_tup (pl_cons pd_str (pl_cons pd_int (pl_cons pd_str pl_nil))) rfl) pl_nil)) rfl) (pl_cons (pd_tup (pl_cons (pd_tup (pl_cons (pd_tup (pl_cons pd_str (pl_cons pd_str pl_nil)) rfl) (pl_cons (pd_tup (pl_cons pd_str pl_nil) rfl) pl_nil)) rfl) (pl_cons (pd_tup (pl_cons pd_str (pl_cons pd_int (pl_cons pd_str pl_nil))) rfl) pl_nil)) rfl) (pl_cons (pd_tup (pl_cons (pd_tup (pl_cons (pd_tup (pl_cons pd_str pl_nil) rfl) (pl_cons (pd_tup (pl_cons pd_str pl_nil) rfl) (pl_cons (pd_tup (pl_cons pd_int pl_nil) rfl) pl_nil))) rfl) (pl_cons (pd_tup (pl_cons pd_str (pl_cons (pd_neg pd_int) (pl_cons pd_str pl_nil))) rfl) pl_nil)) rfl) pl_nil))) rfl))))
    (pssd_cons (psd_set (i := 1) sc__law_by_hand.nd rfl (.inl rfl) (pr_binN op_dAdd (pv 1) (pv_of (pr_lst (pl_cons (pd_tup (pl_cons (pd_tup (pl_cons (pd_tup (pl_cons pd_str (pl_cons pd_non pl_nil)) rfl) (pl_cons (pd_tup (pl_cons pd_str pl_nil) rfl) pl_nil)) rfl) (pl_cons (pd_tup (pl_cons pd_str (pl_cons pd_int (pl_cons pd_str pl_nil))) rfl) pl_nil)) rfl) (pl_cons (pd_tup (pl_cons (pd_tup (pl_cons (pd_tup (pl_cons pd_str (pl_cons (pd_neg pd_int) pl_nil)) rfl) (pl_cons (pd_tup (pl_cons pd_str pl_nil) rfl) pl_nil)) rfl) (pl_cons (pd_tup (pl_cons pd_str (pl_cons pd_int (pl_cons pd_str pl_nil))) rfl) pl_nil)) rfl) (pl_cons (pd_tup (pl_cons (pd_tup (pl_cons (pd_tup (pl_cons pd_str (pl_cons pd_int pl_nil)) rfl) (pl_cons (pd_tup (pl_cons pd_str (pl_cons pd_int pl_nil)) rfl) pl_nil)) rfl) (pl_cons (pd_tup (pl_cons pd_str (pl_cons pd_int (pl_cons pd_str pl_nil))) rfl) pl_nil)) rfl) pl_nil))) rfl))))
    (pssd_cons (psd_for PassesOwn.never rfl (pit_d (pd_var (pv 1))) (pgd_tup rfl (pgds_cons (pgd_name (pg_name (i := 2) sc__law_by_hand.nd rfl (.inl rfl))) (pgds_cons (pgd_name (pg_name (i := 3) sc__law_by_hand.nd rfl (.inl rfl))) pgds_nil))) (pssd_cons (psd_if (pb_w (pwd_or (pb_cmp (op_dNe hr.units) (nomark _) (pd_of (pr_callC c__law_due hr (by decide) (by rfl) (paa_n (pv 0) (paa_n (pv 2) paa_nil)))) (pv_var (pv 3))) (pwd_or1 (pb_not (pb_tru (pd_of (pr_callC c__law_asked hr (by decide) (by rfl) (paa_n (pv 0) (paa_n (pv 2) (paa_d pd_bl paa_nil))))) (by intro _; rfl)))))) (pssd_cons (psd_ret (pr_of pd_bl))
    pssd_nil) pssd_nil)
    pssd_nil))
    (pssd_cons (psd_ret (pr_of pd_bl))
    pssd_nil))))))))))
theorem ok__law_by_hand {f : Addr} {fd : FuncData} (F : FnP K "_law_by_hand" s__law_by_hand f fd) (hx : mg "_law_by_hand" = some (.ref f)) (T : Tx K w mg) (hj : J.jx = none) (c__law_due : CalD P w K mg base J 3 "_law_due" s__law_due ["book", "thing"] pp__law_due) (c__law_asked : CalD P w K mg base J 6 "_law_asked" s__law_asked ["book", "thing", "named"] pp__law_asked) : CalD P w K mg base J 7 "_law_by_hand" s__law_by_hand [] pp__law_by_hand :=
  defD_ok (qs := q__law_by_hand) hj F hx sc__law_by_hand (FunD.bindsN F fun _ _ _ _ _ _ us hl => match us, hl with | [], _ => rfl) len__law_by_hand (body__law_by_hand T c__law_due c__law_asked) spec__law_by_hand
abbrev N__law_press : List Str := ["mint", "many", "told"]
theorem sc__law_press : FnScope N__law_press ["mint", "many"] (defScope s__law_press) := ⟨rfl, rfl, rfl, by decide +kernel, rfl, by decide +kernel, by decide +kernel⟩
theorem body__law_press {f : Addr} (T : Tx K w mg) (cdv : Value) (A : Around) (outer : List Env) (s : Shared) (H : Hp) (E : XK) (hr : Room 0 (A.deeper (envOfC "_law_press" (defScope s__law_press) s.heap.objs.size f cdv))) :
    PSsd (jarO K 0) (cxOf CX0 P w K mg base N__law_press "_law_press" (defScope s__law_press) f cdv A outer s H E).nox (defBody s__law_press) (qSeq (qJput 0 1 (qDR (qBin dAdd (qDR (qJd 0 1)) (qC (.int 1)))))
    (qSeq (qIfS (qTst (qBin dLt (qDR (qJd 0 0)) (qLook 1))) (qSeq (qJput 0 2 (qDR (qBin dMod (qDR (qBin dAdd (qDR (qBin dAdd (qDR (qBin dMul (qDR (qCl cInt (qCons (qDR (qJd 0 2)) qNil))) (qC (.int 69621)))) (qDR (qBin dMul (qDR (qJd 0 1)) (qC (.int 14009)))))) (qC (.int 15)))) (qC (.int 2147483647)))))
    (qSeq (qRet (qBin dMod (qDR (qBin dAdd (qDR (qBin dFdiv (qDR (qCl cInt (qCons (qDR (qJd 0 2)) qNil))) (qC (.int 97)))) (qDR (qJd 0 1)))) (qLook 1)))
    qNext)) qNext)
    (qSeq (qSet 2 (qBin dMod (qDR (qBin dAdd (qDR (qCl cInt (qCons (qDR (qJd 0 0)) qNil))) (qDR (qBin dMul (qDR (qJd 0 1)) (qC (.int 61)))))) (qLook 1)))
    (qSeq (qJput 0 0 (qDR (qBin dFdiv (qDR (qJd 0 0)) (qLook 1))))
    (qSeq (qRet (qMove 2))
    qNext))))) :=
  (pssd_cons (psd_jput (k := 1) (jarO_open _ _) (pv 0) rfl (pd_of (pr_bin op_dAdd (pd_of (pr_jd (k := 1) (pv 0) rfl)) (pv_ofD pd_int))))
    (pssd_cons (psd_if (pb_cmp op_dLt (nomark _) (pd_of (pr_jd (k := 0) (pv 0) rfl)) (pv_var (pv 1))) (pssd_cons (psd_jput (k := 2) (jarO_open _ _) (pv 0) rfl (pd_of (pr_bin op_dMod (pd_of (pr_bin op_dAdd (pd_of (pr_bin op_dAdd (pd_of (pr_bin op_dMul (pd_of (pr_callTy cl_int (by rfl) T.m_int (by decide +kernel) (plv_one (pv_of (pr_jd (k := 2) (pv 0) rfl))))) (pv_ofD pd_int))) (pv_of (pr_bin op_dMul (pd_of (pr_jd (k := 1) (pv 0) rfl)) (pv_ofD pd_int))))) (pv_ofD pd_int))) (pv_ofD pd_int))))
    (pssd_cons (psd_ret (pr_bin op_dMod (pd_of (pr_bin op_dAdd (pd_of (pr_bin op_dFdiv (pd_of (pr_callTy cl_int (by rfl) T.m_int (by decide +kernel) (plv_one (pv_of (pr_jd (k := 2) (pv 0) rfl))))) (pv_ofD pd_int))) (pv_of (pr_jd (k := 1) (pv 0) rfl)))) (pv_var (pv 1))))
    pssd_nil)) pssd_nil)
    (pssd_cons (psd_set (i := 2) sc__law_press.nd rfl (.inl rfl) (pr_bin op_dMod (pd_of (pr_bin op_dAdd (pd_of (pr_callTy cl_int (by rfl) T.m_int (by decide +kernel) (plv_one (pv_of (pr_jd (k := 0) (pv 0) rfl))))) (pv_of (pr_bin op_dMul (pd_of (pr_jd (k := 1) (pv 0) rfl)) (pv_ofD pd_int))))) (pv_var (pv 1))))
    (pssd_cons (psd_jput (k := 0) (jarO_open _ _) (pv 0) rfl (pd_of (pr_bin op_dFdiv (pd_of (pr_jd (k := 0) (pv 0) rfl)) (pv_var (pv 1)))))
    (pssd_cons (psd_ret (pr_var (pv 2)))
    pssd_nil)))))
theorem ok__law_press {f : Addr} {fd : FuncData} (F : FnP K "_law_press" s__law_press f fd) (hx : mg "_law_press" = some (.ref f)) (T : Tx K w mg) : CalD P w K mg base (jarN K good) 1 "_law_press" s__law_press ["mint", "many"] pp__law_press :=
  openD_ok (qs := q__law_press) F hx sc__law_press (FunD.bindsN F fun _ _ _ _ _ _ us hl => match us, hl with | [_, _], _ => rfl) len__law_press (body__law_press T) spec__law_press
abbrev N__law_any : List Str := ["mint", "things"]
theorem sc__law_any : FnScope N__law_any ["mint", "things"] (defScope s__law_any) := ⟨rfl, rfl, rfl, by decide +kernel, rfl, by decide +kernel, by decide +kernel⟩
theorem body__law_any {f : Addr} (T : Tx K w mg) (c__law_press : CalD P w K mg base J 1 "_law_press" s__law_press ["mint", "many"] pp__law_press) (cdv : Value) (A : Around) (outer : List Env) (s : Shared) (H : Hp) (E : XK) (hr : Room 1 (A.deeper (envOfC "_law_any" (defScope s__law_any) s.heap.objs.size f cdv))) :
    PSsd J (cxOf CX0 P w K mg base N__law_any "_law_any" (defScope s__law_any) f cdv A outer s H E).nox (defBody s__law_any) (qSeq (qRet (qBinM dIx 1 (qDR (qCall pp__law_press (qaN 0 (qaD (qDR (qCl cLen (qCons (qLook 1) qNil))) qaNil))))))
    qNext) :=
  (pssd_cons (psd_ret (pr_ixN (pv 1) (pv_of (pr_callC c__law_press hr (by decide) (by rfl) (paa_n (pv 0) (paa_d (pd_of (pr_callB cl_len (by rfl) T.m_len (by decide +kernel) (plv_one (pv_var (pv 1))))) paa_nil)))) (fun _ _ => rfl)))
    pssd_nil)
theorem ok__law_any {f : Addr} {fd : FuncData} (F : FnP K "_law_any" s__law_any f fd) (hx : mg "_law_any" = some (.ref f)) (T : Tx K w mg) (hj : J.jx = none) (c__law_press : CalD P w K mg base J 1 "_law_press" s__law_press ["mint", "many"] pp__law_press) : CalD P w K mg base J 2 "_law_any" s__law_any ["mint", "things"] pp__law_any :=
  defD_ok (qs := q__law_any) hj F hx sc__law_any (FunD.bindsN F fun _ _ _ _ _ _ us hl => match us, hl with | [_, _], _ => rfl) len__law_any (body__law_any T c__law_press) spec__law_any
abbrev N__law_book : List Str := ["mint", "names", "lap", "name", "told"]
theorem sc__law_book : FnScope N__law_book ["mint"] (defScope s__law_book) := ⟨rfl, rfl, rfl, by decide +kernel, rfl, by decide +kernel, by decide +kernel⟩
theorem body__law_book {f : Addr} (T : Tx K w mg) (c__law_any : CalD P w K mg base J 2 "_law_any" s__law_any ["mint", "things"] pp__law_any) (c__law_press : CalD P w K mg base J 1 "_law_press" s__law_press ["mint", "many"] pp__law_press) (cdv : Value) (A : Around) (outer : List Env) (s : Shared) (H : Hp) (E : XK) (hr : Room 2 (A.deeper (envOfC "_law_book" (defScope s__law_book) s.heap.objs.size f cdv))) :
    PSsd J (cxOf CX0 P w K mg base N__law_book "_law_book" (defScope s__law_book) f cdv A outer s H E).nox (defBody s__law_book) (qSeq (qSet 1 (qLst qNil))
    (qSeq (qFor (qRng1 (qCons (qDR (qBin dAdd (qC (.int 1)) (qDR (qCall pp__law_press (qaN 0 (qaD (qC (.int 6)) qaNil)))))) qNil)) (qgName 2) (qSeq (qSet 3 (qCall pp__law_any (qaN 0 (qaD (qDR (qLst (qCons (qC (.str "a")) (qCons (qC (.str "b")) (qCons (qC (.str "ab")) (qCons (qC (.str "a1")) (qCons (qC (.str "cross")) (qCons (qC (.str "swing")) (qCons (qC (.str "dodo")) (qCons (qC (.str "stops")) (qCons (qC (.str "f")) (qCons (qC (.str "jump1")) (qCons (qC (.str "z9z9z9z9")) (qCons (qC (.str "forks")) (qCons (qC (.str "x")) qNil))))))))))))))) qaNil))))
    (qSeq (qIfS (qTst (qBinM (dIn fun b => !b) 3 (qLook 1))) (qSeq (qDrop (qApp 1 (qVar 3)))
    qNext) qNext)
    qNext)))
    (qSeq (qSet 4 (qLst qNil))
    (qSeq (qFor (qItD (qDR (qCl cSortD (qCons (qLook 1) qNil)))) (qgName 3) (qSeq (qDrop (qApp 4 (qTup (qCons (qVar 3) (qCons (qDR (qCl cTuple (qCons (qDR (qLc (qRng1 (qCons (qDR (qBin dAdd (qC (.int 1)) (qDR (qCall pp__law_press (qaN 0 (qaD (qC (.int 3)) qaNil)))))) qNil)) (qgName 2) qYes (qDR (qCall pp__law_any (qaN 0 (qaD (qDR (qLst (qCons (qC (.str "turn")) (qCons (qC (.str "twist")) (qCons (qC (.str "back")) qNil))))) qaNil)))) [2])) qNil))) qNil)))))
    qNext))
    (qSeq (qRet (qCl cTuple (qCons (qLook 4) qNil)))
    qNext))))) :=
  (pssd_cons (psd_set (i := 1) sc__law_book.nd rfl (.inl rfl) (pr_lst pl_nil rfl))
    (pssd_cons (psd_for PassesOwn.never rfl (pit_r1 (by rfl) T.m_range (pl_cons (pd_of (pr_bin op_dAdd pd_int (pv_of (pr_callC c__law_press hr (by decide) (by rfl) (paa_n (pv 0) (paa_d pd_int paa_nil)))))) pl_nil)) (pgd_name (pg_name (i := 2) sc__law_book.nd rfl (.inl rfl))) (pssd_cons (psd_set (i := 3) sc__law_book.nd rfl (.inl rfl) (pr_callC c__law_any hr (by decide) (by rfl) (paa_n (pv 0) (paa_d (pd_of (pr_lst (pl_cons pd_str (pl_cons pd_str (pl_cons pd_str (pl_cons pd_str (pl_cons pd_str (pl_cons pd_str (pl_cons pd_str (pl_cons pd_str (pl_cons pd_str (pl_cons pd_str (pl_cons pd_str (pl_cons pd_str (pl_cons pd_str pl_nil))))))))))))) rfl)) paa_nil))))
    (pssd_cons (psd_if (pb_cmpN op_dNotIn (by rfl) (pv 3) (pv_var (pv 1))) (pssd_cons (psd_expr (pr_app (pv 1) (pd_var (pv 3))))
    pssd_nil) pssd_nil)
    pssd_nil)))
    (pssd_cons (psd_set (i := 4) sc__law_book.nd rfl (.inl rfl) (pr_lst pl_nil rfl))
    (pssd_cons (psd_for PassesOwn.never rfl (pit_d (pd_of (pr_callB (cl_sortD hr.units) (by rfl) T.m_sorted (by decide +kernel) (plv_one (pv_var (pv 1)))))) (pgd_name (pg_name (i := 3) sc__law_book.nd rfl (.inl rfl))) (pssd_cons (psd_expr (pr_app (pv 4) (pd_tup (pl_cons (pd_var (pv 3)) (pl_cons (pd_of (pr_callTy (cl_tuple rfl) (by rfl) T.m_tuple (by decide +kernel) (plv_one (pv_of (pr_lc (own := [("lap", 2)]) rfl sc__law_book.nd (pit_r1 (by rfl) T.m_range (pl_cons (pd_of (pr_bin op_dAdd pd_int (pv_of (pr_callC c__law_press hr (by decide) (by rfl) (paa_n (pv 0) (paa_d pd_int paa_nil)))))) pl_nil)) (blkOk_by (N := N__law_book) (sc := defScope s__law_book) (by decide +kernel)) (fun s1 H1 C1 cl1 fp1 => (pgd_name (pg_name (i := 2) sc__law_book.nd rfl (.inl rfl)))) (fun s1 H1 C1 cl1 fp1 => ptsd_nil) (fun s1 H1 C1 cl1 fp1 => (pd_of (pr_callC c__law_any hr (by decide) (by rfl) (paa_n (pv 0) (paa_d (pd_of (pr_lst (pl_cons pd_str (pl_cons pd_str (pl_cons pd_str pl_nil))) rfl)) paa_nil))))) (by decide)))))) pl_nil)) rfl)))
    pssd_nil))
    (pssd_cons (psd_ret (pr_callTy (cl_tuple rfl) (by rfl) T.m_tuple (by decide +kernel) (plv_one (pv_var (pv 4)))))
    pssd_nil)))))
theorem ok__law_book {f : Addr} {fd : FuncData} (F : FnP K "_law_book" s__law_book f fd) (hx : mg "_law_book" = some (.ref f)) (T : Tx K w mg) (hj : J.jx = none) (c__law_any : CalD P w K mg base J 2 "_law_any" s__law_any ["mint", "things"] pp__law_any) (c__law_press : CalD P w K mg base J 1 "_law_press" s__law_press ["mint", "many"] pp__law_press) : CalD P w K mg base J 3 "_law_book" s__law_book ["mint"] pp__law_book :=
  defD_ok (qs := q__law_book) hj F hx sc__law_book (FunD.bindsN F fun _ _ _ _ _ _ us hl => match us, hl with | [_], _ => rfl) len__law_book (body__law_book T c__law_any c__law_press) spec__law_book
abbrev N__law_letters : List Str := ["moves", "word", "move", "letter", "last", "ahead"]
theorem sc__law_letters : FnScope N__law_letters ["moves"] (defScope s__law_letters) := ⟨rfl, rfl, rfl, by decide +kernel, rfl, by decide +kernel, by decide +kernel⟩
theorem body__law_letters {f : Addr} (T : Tx K w mg)  (cdv : Value) (A : Around) (outer : List Env) (s : Shared) (H : Hp) (E : XK) (hr : Room 0 (A.deeper (envOfC "_law_letters" (defScope s__law_letters) s.heap.objs.size f cdv))) :
    PSsd J (cxOf CX0 P w K mg base N__law_letters "_law_letters" (defScope s__law_letters) f cdv A outer s H E).nox (defBody s__law_letters) (qSeq (qSet 1 (qLst qNil))
    (qSeq (qFor (qItD (qVar 0)) (qgName 2) (qSeq (qFor (qItD (qDR (qCget ([(.inr "turn", .str "s"), (.inr "twist", .str "ws"), (.inr "back", .str "sv")] : Kd) (qVar 2)))) (qgName 3) (qSeq (qDrop (qApp 1 (qVar 3)))
    (qSeq (qWhile (qAnd (qTst (qBin dGt (qDR (qCl cLen (qCons (qLook 1) qNil))) (qC (.int 1)))) (qTst (qBin dEq (qDR (qBin dEq (qDR (qBinM dIx 1 (qNeg (qC (.int 1))))) (qC (.str "s")))) (qDR (qBin dEq (qDR (qBinM dIx 1 (qNeg (qC (.int 2))))) (qC (.str "s"))))))) (qSeq (qSet 4 (qPop 1))
    (qSeq (qSet 5 (qPop 1))
    (qSeq (qIfS (qAnd (qTst (qBinM dEq 4 (qLook 5))) (qTst (qBinM dNe 4 (qC (.str "s"))))) (qSeq (qDrop (qApp 1 (qDR (qIf (qTst (qBinM dEq 4 (qC (.str "w")))) (qRD (qC (.str "v"))) (qRD (qC (.str "w")))))))
    qNext) qNext)
    qNext))))
    qNext)))
    qNext))
    (qSeq (qRet (qCl cLen (qCons (qLook 1) qNil)))
    qNext))) :=
  (pssd_cons (psd_set (i := 1) sc__law_letters.nd rfl (.inl rfl) (pr_lst pl_nil rfl))
    (pssd_cons (psd_for PassesOwn.never rfl (pit_d (pd_var (pv 0))) (pgd_name (pg_name (i := 2) sc__law_letters.nd rfl (.inl rfl))) (pssd_cons (psd_for PassesOwn.never rfl (pit_d (pd_of (pr_cget (t := ([(.inr "turn", .str "s"), (.inr "twist", .str "ws"), (.inr "back", .str "sv")] : Kd)) hr.units (pps_cons pe_str pe_str (pps_cons pe_str pe_str (pps_cons pe_str pe_str pps_nil))) (by rfl) rfl (pd_var (pv 2)) (fun _ _ => rfl)))) (pgd_name (pg_name (i := 3) sc__law_letters.nd rfl (.inl rfl))) (pssd_cons (psd_expr (pr_app (pv 1) (pd_var (pv 3))))
    (pssd_cons (psd_while PassesOwn.never (pb_w (pwd_and (pb_cmp op_dGt (nomark _) (pd_of (pr_callB cl_len (by rfl) T.m_len (by decide +kernel) (plv_one (pv_var (pv 1))))) (pv_ofD pd_int)) (pwd_and1 (pb_cmp (op_dEq hr.units) (nomark _) (pd_of (pr_cmp (op_dEq hr.units) (nomark _) (pd_of (pr_ixN (pv 1) (pv_ofD (pd_neg pd_int)) (fun _ _ => rfl))) (pv_ofD pd_str))) (pv_of (pr_cmp (op_dEq hr.units) (nomark _) (pd_of (pr_ixN (pv 1) (pv_ofD (pd_neg pd_int)) (fun _ _ => rfl))) (pv_ofD pd_str))))))) (pssd_cons (psd_set (i := 4) sc__law_letters.nd rfl (.inl rfl) (pr_pop (pv 1)))
    (pssd_cons (psd_set (i := 5) sc__law_letters.nd rfl (.inl rfl) (pr_pop (pv 1)))
    (pssd_cons (psd_if (pb_w (pwd_and (pb_cmpN (op_dEq hr.units) (nomark _) (pv 4) (pv_var (pv 5))) (pwd_and1 (pb_cmpN (op_dNe hr.units) (nomark _) (pv 4) (pv_ofD pd_str))))) (pssd_cons (psd_expr (pr_app (pv 1) (pd_of (pr_if (pb_cmpN (op_dEq hr.units) (nomark _) (pv 4) (pv_ofD pd_str)) (pr_of pd_str) (pr_of pd_str)))))
    pssd_nil) pssd_nil)
    pssd_nil))))
    pssd_nil)))
    pssd_nil))
    (pssd_cons (psd_ret (pr_callB cl_len (by rfl) T.m_len (by decide +kernel) (plv_one (pv_var (pv 1)))))
    pssd_nil)))
theorem ok__law_letters {f : Addr} {fd : FuncData} (F : FnP K "_law_letters" s__law_letters f fd) (hx : mg "_law_letters" = some (.ref f)) (T : Tx K w mg) (hj : J.jx = none)  : CalD P w K mg base J 1 "_law_letters" s__law_letters ["moves"] pp__law_letters :=
  defD_ok (qs := q__law_letters) hj F hx sc__law_letters (FunD.bindsN F fun _ _ _ _ _ _ us hl => match us, hl with | [_], _ => rfl) len__law_letters (body__law_letters T ) spec__law_letters
abbrev N__law_nodes : List Str := ["book", "code", "many", "one", "name", "moves"]
theorem sc__law_nodes : FnScope N__law_nodes ["book", "code"] (defScope s__law_nodes) := ⟨rfl, rfl, rfl, by decide +kernel, rfl, by decide +kernel, by decide +kernel⟩
theorem body__law_nodes {f : Addr} (T : Tx K w mg) (c__law_letters : CalD P w K mg base J 1 "_law_letters" s__law_letters ["moves"] pp__law_letters) (cdv : Value) (A : Around) (outer : List Env) (s : Shared) (H : Hp) (E : XK) (hr : Room 1 (A.deeper (envOfC "_law_nodes" (defScope s__law_nodes) s.heap.objs.size f cdv))) :
    PSsd J (cxOf CX0 P w K mg base N__law_nodes "_law_nodes" (defScope s__law_nodes) f cdv A outer s H E).nox (defBody s__law_nodes) (qSeq (qSet 2 (qCl cLen (qCons (qLook 1) qNil)))
    (qSeq (qFor (qItD (qVar 1)) (qgName 3) (qSeq (qFor (qItD (qVar 0)) (qgTup 2 (qgCons (qgName 4) (qgCons (qgName 5) qgNil))) (qSeq (qIfS (qAnd (qTst (qBin (dIn fun b => b) (qDR (qBinM dIx 3 (qC (.int 0)))) (qDR (qLst (qCons (qC (.str "do")) (qCons (qC (.str "undo")) qNil)))))) (qTst (qBin dEq (qDR (qBinM dIx 3 (qC (.int 1)))) (qLook 4)))) (qSeq (qSet 2 (qBinM dAdd 2 (qDR (qCl cMax (qCons (qC (.int 0)) (qCons (qDR (qBin dSub (qDR (qCall pp__law_letters (qaN 5 qaNil))) (qC (.int 1)))) qNil))))))
    qNext) qNext)
    qNext))
    qNext))
    (qSeq (qRet (qMove 2))
    qNext))) :=
  (pssd_cons (psd_set (i := 2) sc__law_nodes.nd rfl (.inl rfl) (pr_callB cl_len (by rfl) T.m_len (by decide +kernel) (plv_one (pv_var (pv 1)))))
    (pssd_cons (psd_for PassesOwn.never rfl (pit_d (pd_var (pv 1))) (pgd_name (pg_name (i := 3) sc__law_nodes.nd rfl (.inl rfl))) (pssd_cons (psd_for PassesOwn.never rfl (pit_d (pd_var (pv 0))) (pgd_tup rfl (pgds_cons (pgd_name (pg_name (i := 4) sc__law_nodes.nd rfl (.inl rfl))) (pgds_cons (pgd_name (pg_name (i := 5) sc__law_nodes.nd rfl (.inl rfl))) pgds_nil))) (pssd_cons (psd_if (pb_w (pwd_and (pb_cmp op_dIn (by rfl) (pd_of (pr_ixN (pv 3) (pv_ofD pd_int) (fun _ _ => rfl))) (pv_of (pr_lst (pl_cons pd_str (pl_cons pd_str pl_nil)) rfl))) (pwd_and1 (pb_cmp (op_dEq hr.units) (nomark _) (pd_of (pr_ixN (pv 3) (pv_ofD pd_int) (fun _ _ => rfl))) (pv_var (pv 4)))))) (pssd_cons (psd_set (i := 2) sc__law_nodes.nd rfl (.inl rfl) (pr_binN op_dAdd (pv 2) (pv_of (pr_callB (cl_max rfl) (by rfl) T.m_max (by decide +kernel) (plv_cons pd_int (plv_one (pv_of (pr_bin op_dSub (pd_of (pr_callC c__law_letters hr (by decide) (by rfl) (paa_n (pv 5) paa_nil))) (pv_ofD pd_int)))))))))
    pssd_nil) pssd_nil)
    pssd_nil))
    pssd_nil))
    (pssd_cons (psd_ret (pr_var (pv 2)))
    pssd_nil)))
theorem ok__law_nodes {f : Addr} {fd : FuncData} (F : FnP K "_law_nodes" s__law_nodes f fd) (hx : mg "_law_nodes" = some (.ref f)) (T : Tx K w mg) (hj : J.jx = none) (c__law_letters : CalD P w K mg base J 1 "_law_letters" s__law_letters ["moves"] pp__law_letters) : CalD P w K mg base J 2 "_law_nodes" s__law_nodes ["book", "code"] pp__law_nodes :=
  defD_ok (qs := q__law_nodes) hj F hx sc__law_nodes (FunD.bindsN F fun _ _ _ _ _ _ us hl => match us, hl with | [_, _], _ => rfl) len__law_nodes (body__law_nodes T c__law_letters) spec__law_nodes
abbrev N__law_code : List Str := ["mint", "book", "most", "code", "place", "way", "one"]
theorem sc__law_code : FnScope N__law_code ["mint", "book", "most"] (defScope s__law_code) := ⟨rfl, rfl, rfl, by decide +kernel, rfl, by decide +kernel, by decide +kernel⟩
theorem body__law_code {f : Addr} (T : Tx K w mg) (c__law_press : CalD P w K mg base J 1 "_law_press" s__law_press ["mint", "many"] pp__law_press) (c__law_any : CalD P w K mg base J 2 "_law_any" s__law_any ["mint", "things"] pp__law_any) (c__law_nodes : CalD P w K mg base J 2 "_law_nodes" s__law_nodes ["book", "code"] pp__law_nodes) (cdv : Value) (A : Around) (outer : List Env) (s : Shared) (H : Hp) (E : XK) (hr : Room 2 (A.deeper (envOfC "_law_code" (defScope s__law_code) s.heap.objs.size f cdv))) :
    PSsd J (cxOf CX0 P w K mg base N__law_code "_law_code" (defScope s__law_code) f cdv A outer s H E).nox (defBody s__law_code) (qSeq (qSet 3 (qLst qNil))
    (qSeq (qFor (qRng1 (qCons (qDR (qBinM dSub 2 (qC (.int 1)))) qNil)) (qgName 4) (qSeq (qSet 5 (qCall pp__law_press (qaN 0 (qaD (qC (.int 6)) qaNil))))
    (qSeq (qSet 6 (qRD (qTup (qCons (qC (.str "stop")) qNil))))
    (qSeq (qIfS (qTst (qBinM dLt 5 (qC (.int 3)))) (qSeq (qSet 6 (qRD (qTup (qCons (qDR (qCall pp__law_any (qaN 0 (qaD (qDR (qLst (qCons (qC (.str "do")) (qCons (qC (.str "undo")) qNil)))) qaNil)))) (qCons (qDR (qBin dIx (qDR (qCall pp__law_any (qaN 0 (qaN 1 qaNil)))) (qC (.int 0)))) qNil)))))
    (qSeq (qIfS (qTst (qBin dGt (qDR (qBin dSub (qDR (qBin dAdd (qDR (qCall pp__law_nodes (qaN 1 (qaD (qDR (qBinM dAdd 3 (qDR (qLst (qCons (qVar 6) qNil))))) qaNil)))) (qLook 2))) (qLook 4))) (qC (.int 48)))) (qSeq (qSet 6 (qRD (qTup (qCons (qC (.str "stop")) qNil))))
    qNext) qNext)
    qNext)) (qSeq (qIfS (qTst (qBinM dLt 5 (qC (.int 5)))) (qSeq (qSet 6 (qRD (qTup (qCons (qDR (qBin dIx (qDR (qLst (qCons (qC (.str "fork")) (qCons (qC (.str "jump")) qNil)))) (qDR (qBinM dSub 5 (qC (.int 3)))))) (qCons (qDR (qCall pp__law_any (qaN 0 (qaD (qDR (qLst (qCons (qC (.int 0)) (qCons (qDR (qBinM dSub 2 (qC (.int 1)))) (qCons (qDR (qCall pp__law_press (qaN 0 (qaN 2 qaNil)))) qNil))))) qaNil)))) qNil)))))
    qNext) qNext)
    qNext))
    (qSeq (qDrop (qApp 3 (qVar 6)))
    qNext)))))
    (qSeq (qDrop (qApp 3 (qDR (qCall pp__law_any (qaN 0 (qaD (qDR (qLst (qCons (qTup (qCons (qC (.str "stop")) qNil)) (qCons (qTup (qCons (qC (.str "jump")) (qCons (qDR (qCall pp__law_press (qaN 0 (qaN 2 qaNil)))) qNil))) (qCons (qTup (qCons (qC (.str "stop")) qNil)) qNil))))) qaNil))))))
    (qSeq (qRet (qCl cTuple (qCons (qLook 3) qNil)))
    qNext)))) :=
  (pssd_cons (psd_set (i := 3) sc__law_code.nd rfl (.inl rfl) (pr_lst pl_nil rfl))
    (pssd_cons (psd_for PassesOwn.never rfl (pit_r1 (by rfl) T.m_range (pl_cons (pd_of (pr_binN op_dSub (pv 2) (pv_ofD pd_int))) pl_nil)) (pgd_name (pg_name (i := 4) sc__law_code.nd rfl (.inl rfl))) (pssd_cons (psd_set (i := 5) sc__law_code.nd rfl (.inl rfl) (pr_callC c__law_press hr (by decide) (by rfl) (paa_n (pv 0) (paa_d pd_int paa_nil))))
    (pssd_cons (psd_set (i := 6) sc__law_code.nd rfl (.inl rfl) (pr_of (pd_tup (pl_cons pd_str pl_nil) rfl)))
    (pssd_cons (psd_if (pb_cmpN op_dLt (nomark _) (pv 5) (pv_ofD pd_int)) (pssd_cons (psd_set (i := 6) sc__law_code.nd rfl (.inl rfl) (pr_of (pd_tup (pl_cons (pd_of (pr_callC c__law_any hr (by decide) (by rfl) (paa_n (pv 0) (paa_d (pd_of (pr_lst (pl_cons pd_str (pl_cons pd_str pl_nil)) rfl)) paa_nil)))) (pl_cons (pd_of (pr_ix (pd_of (pr_callC c__law_any hr (by decide) (by rfl) (paa_n (pv 0) (paa_n (pv 1) paa_nil)))) (pv_ofD pd_int) (fun _ _ => rfl))) pl_nil)) rfl)))
    (pssd_cons (psd_if (pb_cmp op_dGt (nomark _) (pd_of (pr_bin op_dSub (pd_of (pr_bin op_dAdd (pd_of (pr_callC c__law_nodes hr (by decide) (by rfl) (paa_n (pv 1) (paa_d (pd_of (pr_binN op_dAdd (pv 3) (pv_of (pr_lst (pl_cons (pd_var (pv 6)) pl_nil) rfl)))) paa_nil)))) (pv_var (pv 2)))) (pv_var (pv 4)))) (pv_ofD pd_int)) (pssd_cons (psd_set (i := 6) sc__law_code.nd rfl (.inl rfl) (pr_of (pd_tup (pl_cons pd_str pl_nil) rfl)))
    pssd_nil) pssd_nil)
    pssd_nil)) (pssd_cons (psd_if (pb_cmpN op_dLt (nomark _) (pv 5) (pv_ofD pd_int)) (pssd_cons (psd_set (i := 6) sc__law_code.nd rfl (.inl rfl) (pr_of (pd_tup (pl_cons (pd_of (pr_ix (pd_of (pr_lst (pl_cons pd_str (pl_cons pd_str pl_nil)) rfl)) (pv_of (pr_binN op_dSub (pv 5) (pv_ofD pd_int))) (fun _ _ => rfl))) (pl_cons (pd_of (pr_callC c__law_any hr (by decide) (by rfl) (paa_n (pv 0) (paa_d (pd_of (pr_lst (pl_cons pd_int (pl_cons (pd_of (pr_binN op_dSub (pv 2) (pv_ofD pd_int))) (pl_cons (pd_of (pr_callC c__law_press hr (by decide) (by rfl) (paa_n (pv 0) (paa_n (pv 2) paa_nil)))) pl_nil))) rfl)) paa_nil)))) pl_nil)) rfl)))
    pssd_nil) pssd_nil)
    pssd_nil))
    (pssd_cons (psd_expr (pr_app (pv 3) (pd_var (pv 6))))
    pssd_nil)))))
    (pssd_cons (psd_expr (pr_app (pv 3) (pd_of (pr_callC c__law_any hr (by decide) (by rfl) (paa_n (pv 0) (paa_d (pd_of (pr_lst (pl_cons (pd_tup (pl_cons pd_str pl_nil) rfl) (pl_cons (pd_tup (pl_cons pd_str (pl_cons (pd_of (pr_callC c__law_press hr (by decide) (by rfl) (paa_n (pv 0) (paa_n (pv 2) paa_nil)))) pl_nil)) rfl) (pl_cons (pd_tup (pl_cons pd_str pl_nil) rfl) pl_nil))) rfl)) paa_nil))))))
    (pssd_cons (psd_ret (pr_callTy (cl_tuple rfl) (by rfl) T.m_tuple (by decide +kernel) (plv_one (pv_var (pv 3)))))
    pssd_nil))))
theorem ok__law_code {f : Addr} {fd : FuncData} (F : FnP K "_law_code" s__law_code f fd) (hx : mg "_law_code" = some (.ref f)) (T : Tx K w mg) (hj : J.jx = none) (c__law_press : CalD P w K mg base J 1 "_law_press" s__law_press ["mint", "many"] pp__law_press) (c__law_any : CalD P w K mg base J 2 "_law_any" s__law_any ["mint", "things"] pp__law_any) (c__law_nodes : CalD P w K mg base J 2 "_law_nodes" s__law_nodes ["book", "code"] pp__law_nodes) : CalD P w K mg base J 3 "_law_code" s__law_code ["mint", "book", "most"] pp__law_code :=
  defD_ok (qs := q__law_code) hj F hx sc__law_code (FunD.bindsN F fun _ _ _ _ _ _ us hl => match us, hl with | [_, _, _], _ => rfl) len__law_code (body__law_code T c__law_press c__law_any c__law_nodes) spec__law_code
abbrev N__law_odd : List Str := ["mint", "book", "many", "names", "kind", "word", "bad", "name", "moves"]
theorem sc__law_odd : FnScope N__law_odd ["mint", "book", "many"] (defScope s__law_odd) := ⟨rfl, rfl, rfl, by decide +kernel, rfl, by decide +kernel, by decide +kernel⟩
theorem body__law_odd {f : Addr} (T : Tx K w mg) (c__law_press : CalD P w K mg base J 1 "_law_press" s__law_press ["mint", "many"] pp__law_press) (c__law_any : CalD P w K mg base J 2 "_law_any" s__law_any ["mint", "things"] pp__law_any) (cdv : Value) (A : Around) (outer : List Env) (s : Shared) (H : Hp) (E : XK) (hr : Room 2 (A.deeper (envOfC "_law_odd" (defScope s__law_odd) s.heap.objs.size f cdv))) :
    PSsd J (cxOf CX0 P w K mg base N__law_odd "_law_odd" (defScope s__law_odd) f cdv A outer s H E).nox (defBody s__law_odd) (qSeq (qSet 3 (qLc (qItD (qVar 1)) (qgTup 2 (qgCons (qgName 7) (qgCons (qgName 8) qgNil))) qYes (qVar 7) [7, 8]))
    (qSeq (qSet 4 (qCall pp__law_press (qaN 0 (qaD (qC (.int 8)) qaNil))))
    (qSeq (qSet 5 (qCall pp__law_any (qaN 0 (qaD (qDR (qLst (qCons (qC (.str "do")) (qCons (qC (.str "undo")) (qCons (qC (.str "fork")) (qCons (qC (.str "jump")) qNil)))))) qaNil))))
    (qSeq (qIfS (qTst (qBinM dEq 4 (qC (.int 0)))) (qSeq (qRet (qRD (qTup (qCons (qDR (qCall pp__law_any (qaN 0 (qaD (qDR (qLst (qCons (qC (.str "Do")) (qCons (qC (.str "")) (qCons (qC (.str "redo")) (qCons (qC (.str "call")) (qCons (qC (.str "stop ")) (qCons (qC (.str "any")) (qCons (qC (.str "do undo")) (qCons (qC (.str "forks")) (qCons (qC (.str "place")) qNil))))))))))) qaNil)))) (qCons (qDR (qCall pp__law_any (qaN 0 (qaD (qDR (qLst (qCons (qC (.int 0)) (qCons (qDR (qBinM dIx 3 (qC (.int 0)))) qNil)))) qaNil)))) qNil)))))
    qNext) qNext)
    (qSeq (qIfS (qTst (qBinM dEq 4 (qC (.int 1)))) (qSeq (qRet (qCall pp__law_any (qaN 0 (qaD (qDR (qLst (qCons (qTup (qCons (qVar 5) qNil)) (qCons (qTup (qCons (qVar 5) (qCons (qC (.int 0)) (qCons (qC (.int 0)) qNil)))) (qCons (qTup (qCons (qVar 5) (qCons (qDR (qBinM dIx 3 (qC (.int 0)))) (qCons (qC (.int 0)) qNil)))) (qCons (qTup (qCons (qC (.str "stop")) (qCons (qC (.int 0)) qNil))) (qCons (qTup (qCons (qC (.str "stop")) (qCons (qC (.str "stop")) qNil))) (qCons (qTup (qCons (qC (.str "stop")) (qCons (qTup qNil) qNil))) (qCons (qTup (qCons (qC (.str "do")) (qCons (qDR (qBinM dIx 3 (qC (.int 0)))) (qCons (qDR (qBinM dIx 3 (qC (.int 0)))) qNil)))) qNil))))))))) qaNil))))
    qNext) qNext)
    (qSeq (qIfS (qTst (qBinM dEq 4 (qC (.int 2)))) (qSeq (qSet 6 (qLst (qCons (qC (.str "")) (qCons (qC (.str "zzz")) (qCons (qDR (qBin dAdd (qDR (qBinM dIx 3 (qC (.int 0)))) (qC (.str "x")))) (qCons (qUpper (qDR (qBinM dIx 3 (qNeg (qC (.int 1)))))) (qCons (qC .none) (qCons (qC (.int 0)) (qCons (qC (.bool true)) (qCons (qTup (qCons (qDR (qBinM dIx 3 (qC (.int 0)))) qNil)) (qCons (qDR (qLst (qCons (qDR (qBinM dIx 3 (qC (.int 0)))) qNil))) (qCons (qVar 3) (qCons (qDR (qBin dPow (qC (.int 10)) (qC (.int 59)))) (qCons (qC (.str "do")) (qCons (qDR (qSl (qDR (qBinM dIx 3 (qC (.int 0)))) qO0 (qO1 (qNeg (qC (.int 1)))))) (qCons (qDR (qBin dAdd (qDR (qBinM dIx 3 (qC (.int 0)))) (qC (.str " ")))) qNil))))))))))))))))
    (qSeq (qRet (qRD (qTup (qCons (qDR (qCall pp__law_any (qaN 0 (qaD (qDR (qLst (qCons (qC (.str "do")) (qCons (qC (.str "undo")) qNil)))) qaNil)))) (qCons (qDR (qCall pp__law_any (qaN 0 (qaN 6 qaNil)))) qNil)))))
    qNext)) qNext)
    (qSeq (qIfS (qTst (qBinM dEq 4 (qC (.int 3)))) (qSeq (qSet 6 (qLst (qCons (qVar 2) (qCons (qDR (qBinM dAdd 2 (qC (.int 1)))) (qCons (qNeg (qC (.int 1))) (qCons (qC (.bool true)) (qCons (qC (.bool false)) (qCons (qC .none) (qCons (qC (.str "0")) (qCons (qC (.str "1")) (qCons (qTup (qCons (qC (.int 0)) qNil)) (qCons (qDR (qLst (qCons (qC (.int 0)) qNil))) (qCons (qDR (qBin dPow (qC (.int 10)) (qC (.int 59)))) (qCons (qNeg (qVar 2)) (qCons (qDR (qBinM dIx 3 (qC (.int 0)))) (qCons (qDR (qBinM dSub 2 (qC (.int 1)))) qNil))))))))))))))))
    (qSeq (qRet (qRD (qTup (qCons (qDR (qCall pp__law_any (qaN 0 (qaD (qDR (qLst (qCons (qC (.str "fork")) (qCons (qC (.str "jump")) qNil)))) qaNil)))) (qCons (qDR (qCall pp__law_any (qaN 0 (qaN 6 qaNil)))) qNil)))))
    qNext)) qNext)
    (qSeq (qIfS (qTst (qBinM dEq 4 (qC (.int 4)))) (qSeq (qRet (qCall pp__law_any (qaN 0 (qaD (qDR (qLst (qCons (qTup (qCons (qC (.str "do")) (qCons (qDR (qBinM dIx 3 (qC (.int 0)))) qNil))) (qCons (qTup (qCons (qC (.str "undo")) (qCons (qDR (qBinM dIx 3 (qNeg (qC (.int 1))))) qNil))) (qCons (qTup (qCons (qC (.str "fork")) (qCons (qC (.int 0)) qNil))) (qCons (qTup (qCons (qC (.str "fork")) (qCons (qDR (qBinM dSub 2 (qC (.int 1)))) qNil))) qNil)))))) qaNil))))
    qNext) qNext)
    (qSeq (qIfS (qTst (qBinM dEq 4 (qC (.int 5)))) (qSeq (qRet (qCall pp__law_any (qaN 0 (qaD (qDR (qLst (qCons (qDR (qLst (qCons (qC (.str "stop")) qNil))) (qCons (qTup qNil) (qCons (qC .none) (qCons (qC (.str "stop")) (qCons (qTup (qCons (qC (.int 0)) qNil)) (qCons (qTup (qCons (qC .none) (qCons (qC (.int 0)) qNil))) (qCons (qTup (qCons (qC (.bool true)) qNil)) (qCons (qTup (qCons (qTup (qCons (qC (.str "do")) (qCons (qDR (qBinM dIx 3 (qC (.int 0)))) qNil))) qNil)) (qCons (qDR (qLst (qCons (qC (.str "do")) (qCons (qDR (qBinM dIx 3 (qC (.int 0)))) qNil)))) (qCons (qC (.int 7)) (qCons (qDR (qLst qNil)) (qCons (qTup (qCons (qTup qNil) qNil)) (qCons (qTup (qCons (qDR (qLst (qCons (qC (.str "do")) qNil))) (qCons (qC (.int 0)) qNil))) qNil))))))))))))))) qaNil))))
    qNext) qNext)
    (qSeq (qIfS (qTst (qBinM dEq 4 (qC (.int 6)))) (qSeq (qRet (qRD (qTup (qCons (qDR (qCall pp__law_any (qaN 0 (qaD (qDR (qLst (qCons (qC (.str "fork")) (qCons (qC (.str "jump")) qNil)))) qaNil)))) (qCons (qDR (qCall pp__law_press (qaN 0 (qaD (qDR (qBinM dAdd 2 (qC (.int 1)))) qaNil)))) qNil)))))
    qNext) qNext)
    (qSeq (qRet (qRD (qTup (qCons (qC (.str "stop")) qNil))))
    qNext))))))))))) :=
  (pssd_cons (psd_setLc (own := [("name", 7), ("moves", 8)]) (i := 3) rfl sc__law_odd.nd rfl rfl (sw_true rfl rfl rfl (by decide +kernel)) (pit_d (pd_var (pv 1))) (blkOk_by (N := N__law_odd) (sc := defScope s__law_odd) (by decide +kernel)) (fun s1 H1 C1 cl1 fp1 => (pgd_tup rfl (pgds_cons (pgd_name (pg_name (i := 7) sc__law_odd.nd rfl (.inl rfl))) (pgds_cons (pgd_name (pg_name (i := 8) sc__law_odd.nd rfl (.inl rfl))) pgds_nil)))) (fun s1 H1 C1 cl1 fp1 => ptsd_nil) (fun s1 H1 C1 cl1 fp1 => (pd_var (pv 7))) (by decide))
    (pssd_cons (psd_set (i := 4) sc__law_odd.nd rfl (.inl rfl) (pr_callC c__law_press hr (by decide) (by rfl) (paa_n (pv 0) (paa_d pd_int paa_nil))))
    (pssd_cons (psd_set (i := 5) sc__law_odd.nd rfl (.inl rfl) (pr_callC c__law_any hr (by decide) (by rfl) (paa_n (pv 0) (paa_d (pd_of (pr_lst (pl_cons pd_str (pl_cons pd_str (pl_cons pd_str (pl_cons pd_str pl_nil)))) rfl)) paa_nil))))
    (pssd_cons (psd_if (pb_cmpN (op_dEq hr.units) (nomark _) (pv 4) (pv_ofD pd_int)) (pssd_cons (psd_ret (pr_of (pd_tup (pl_cons (pd_of (pr_callC c__law_any hr (by decide) (by rfl) (paa_n (pv 0) (paa_d (pd_of (pr_lst (pl_cons pd_str (pl_cons pd_str (pl_cons pd_str (pl_cons pd_str (pl_cons pd_str (pl_cons pd_str (pl_cons pd_str (pl_cons pd_str (pl_cons pd_str pl_nil))))))))) rfl)) paa_nil)))) (pl_cons (pd_of (pr_callC c__law_any hr (by decide) (by rfl) (paa_n (pv 0) (paa_d (pd_of (pr_lst (pl_cons pd_int (pl_cons (pd_of (pr_ixN (pv 3) (pv_ofD pd_int) (fun _ _ => rfl))) pl_nil)) rfl)) paa_nil)))) pl_nil)) rfl)))
    pssd_nil) pssd_nil)
    (pssd_cons (psd_if (pb_cmpN (op_dEq hr.units) (nomark _) (pv 4) (pv_ofD pd_int)) (pssd_cons (psd_ret (pr_callC c__law_any hr (by decide) (by rfl) (paa_n (pv 0) (paa_d (pd_of (pr_lst (pl_cons (pd_tup (pl_cons (pd_var (pv 5)) pl_nil) rfl) (pl_cons (pd_tup (pl_cons (pd_var (pv 5)) (pl_cons pd_int (pl_cons pd_int pl_nil))) rfl) (pl_cons (pd_tup (pl_cons (pd_var (pv 5)) (pl_cons (pd_of (pr_ixN (pv 3) (pv_ofD pd_int) (fun _ _ => rfl))) (pl_cons pd_int pl_nil))) rfl) (pl_cons (pd_tup (pl_cons pd_str (pl_cons pd_int pl_nil)) rfl) (pl_cons (pd_tup (pl_cons pd_str (pl_cons pd_str pl_nil)) rfl) (pl_cons (pd_tup (pl_cons pd_str (pl_cons (pd_tup pl_nil rfl) pl_nil)) rfl) (pl_cons (pd_tup (pl_cons pd_str (pl_cons (pd_of (pr_ixN (pv 3) (pv_ofD pd_int) (fun _ _ => rfl))) (pl_cons (pd_of (pr_ixN (pv 3) (pv_ofD pd_int) (fun _ _ => rfl))) pl_nil))) rfl) pl_nil))))))) rfl)) paa_nil))))
    pssd_nil) pssd_nil)
    (pssd_cons (psd_if (pb_cmpN (op_dEq hr.units) (nomark _) (pv 4) (pv_ofD pd_int)) (pssd_cons (psd_set (i := 6) sc__law_odd.nd rfl (.inl rfl) (pr_lst (pl_cons pd_str (pl_cons pd_str (pl_cons (pd_of (pr_bin op_dAdd (pd_of (pr_ixN (pv 3) (pv_ofD pd_int) (fun _ _ => rfl))) (pv_ofD pd_str))) (pl_cons (pd_upper (pd_of (pr_ixN (pv 3) (pv_ofD (pd_neg pd_int)) (fun _ _ => rfl)))) (pl_cons pd_non (pl_cons pd_int (pl_cons pd_bl (pl_cons (pd_tup (pl_cons (pd_of (pr_ixN (pv 3) (pv_ofD pd_int) (fun _ _ => rfl))) pl_nil) rfl) (pl_cons (pd_of (pr_lst (pl_cons (pd_of (pr_ixN (pv 3) (pv_ofD pd_int) (fun _ _ => rfl))) pl_nil) rfl)) (pl_cons (pd_var (pv 3)) (pl_cons (pd_of (pr_bin op_dPow pd_int (pv_ofD pd_int))) (pl_cons pd_str (pl_cons (pd_of (pr_sl (pd_of (pr_ixN (pv 3) (pv_ofD pd_int) (fun _ _ => rfl))) pod_none (pod_some (pd_neg pd_int)))) (pl_cons (pd_of (pr_bin op_dAdd (pd_of (pr_ixN (pv 3) (pv_ofD pd_int) (fun _ _ => rfl))) (pv_ofD pd_str))) pl_nil)))))))))))))) rfl))
    (pssd_cons (psd_ret (pr_of (pd_tup (pl_cons (pd_of (pr_callC c__law_any hr (by decide) (by rfl) (paa_n (pv 0) (paa_d (pd_of (pr_lst (pl_cons pd_str (pl_cons pd_str pl_nil)) rfl)) paa_nil)))) (pl_cons (pd_of (pr_callC c__law_any hr (by decide) (by rfl) (paa_n (pv 0) (paa_n (pv 6) paa_nil)))) pl_nil)) rfl)))
    pssd_nil)) pssd_nil)
    (pssd_cons (psd_if (pb_cmpN (op_dEq hr.units) (nomark _) (pv 4) (pv_ofD pd_int)) (pssd_cons (psd_set (i := 6) sc__law_odd.nd rfl (.inl rfl) (pr_lst (pl_cons (pd_var (pv 2)) (pl_cons (pd_of (pr_binN op_dAdd (pv 2) (pv_ofD pd_int))) (pl_cons (pd_neg pd_int) (pl_cons pd_bl (pl_cons pd_bl (pl_cons pd_non (pl_cons pd_str (pl_cons pd_str (pl_cons (pd_tup (pl_cons pd_int pl_nil) rfl) (pl_cons (pd_of (pr_lst (pl_cons pd_int pl_nil) rfl)) (pl_cons (pd_of (pr_bin op_dPow pd_int (pv_ofD pd_int))) (pl_cons (pd_neg (pd_var (pv 2))) (pl_cons (pd_of (pr_ixN (pv 3) (pv_ofD pd_int) (fun _ _ => rfl))) (pl_cons (pd_of (pr_binN op_dSub (pv 2) (pv_ofD pd_int))) pl_nil)))))))))))))) rfl))
    (pssd_cons (psd_ret (pr_of (pd_tup (pl_cons (pd_of (pr_callC c__law_any hr (by decide) (by rfl) (paa_n (pv 0) (paa_d (pd_of (pr_lst (pl_cons pd_str (pl_cons pd_str pl_nil)) rfl)) paa_nil)))) (pl_cons (pd_of (pr_callC c__law_any hr (by decide) (by rfl) (paa_n (pv 0) (paa_n (pv 6) paa_nil)))) pl_nil)) rfl)))
    pssd_nil)) pssd_nil)
    (pssd_cons (psd_if (pb_cmpN (op_dEq hr.units) (nomark _) (pv 4) (pv_ofD pd_int)) (pssd_cons (psd_ret (pr_callC c__law_any hr (by decide) (by rfl) (paa_n (pv 0) (paa_d (pd_of (pr_lst (pl_cons (pd_tup (pl_cons pd_str (pl_cons (pd_of (pr_ixN (pv 3) (pv_ofD pd_int) (fun _ _ => rfl))) pl_nil)) rfl) (pl_cons (pd_tup (pl_cons pd_str (pl_cons (pd_of (pr_ixN (pv 3) (pv_ofD (pd_neg pd_int)) (fun _ _ => rfl))) pl_nil)) rfl) (pl_cons (pd_tup (pl_cons pd_str (pl_cons pd_int pl_nil)) rfl) (pl_cons (pd_tup (pl_cons pd_str (pl_cons (pd_of (pr_binN op_dSub (pv 2) (pv_ofD pd_int))) pl_nil)) rfl) pl_nil)))) rfl)) paa_nil))))
    pssd_nil) pssd_nil)
    (pssd_cons (psd_if (pb_cmpN (op_dEq hr.units) (nomark _) (pv 4) (pv_ofD pd_int)) (pssd_cons (psd_ret (pr_callC c__law_any hr (by decide) (by rfl) (paa_n (pv 0) (paa_d (pd_of (pr_lst (pl_cons (pd_of (pr_lst (pl_cons pd_str pl_nil) rfl)) (pl_cons (pd_tup pl_nil rfl) (pl_cons pd_non (pl_cons pd_str (pl_cons (pd_tup (pl_cons pd_int pl_nil) rfl) (pl_cons (pd_tup (pl_cons pd_non (pl_cons pd_int pl_nil)) rfl) (pl_cons (pd_tup (pl_cons pd_bl pl_nil) rfl) (pl_cons (pd_tup (pl_cons (pd_tup (pl_cons pd_str (pl_cons (pd_of (pr_ixN (pv 3) (pv_ofD pd_int) (fun _ _ => rfl))) pl_nil)) rfl) pl_nil) rfl) (pl_cons (pd_of (pr_lst (pl_cons pd_str (pl_cons (pd_of (pr_ixN (pv 3) (pv_ofD pd_int) (fun _ _ => rfl))) pl_nil)) rfl)) (pl_cons pd_int (pl_cons (pd_of (pr_lst pl_nil rfl)) (pl_cons (pd_tup (pl_cons (pd_tup pl_nil rfl) pl_nil) rfl) (pl_cons (pd_tup (pl_cons (pd_of (pr_lst (pl_cons pd_str pl_nil) rfl)) (pl_cons pd_int pl_nil)) rfl) pl_nil))))))))))))) rfl)) paa_nil))))
    pssd_nil) pssd_nil)
    (pssd_cons (psd_if (pb_cmpN (op_dEq hr.units) (nomark _) (pv 4) (pv_ofD pd_int)) (pssd_cons (psd_ret (pr_of (pd_tup (pl_cons (pd_of (pr_callC c__law_any hr (by decide) (by rfl) (paa_n (pv 0) (paa_d (pd_of (pr_lst (pl_cons pd_str (pl_cons pd_str pl_nil)) rfl)) paa_nil)))) (pl_cons (pd_of (pr_callC c__law_press hr (by decide) (by rfl) (paa_n (pv 0) (paa_d (pd_of (pr_binN op_dAdd (pv 2) (pv_ofD pd_int))) paa_nil)))) pl_nil)) rfl)))
    pssd_nil) pssd_nil)
    (pssd_cons (psd_ret (pr_of (pd_tup (pl_cons pd_str pl_nil) rfl)))
    pssd_nil)))))))))))
theorem ok__law_odd {f : Addr} {fd : FuncData} (F : FnP K "_law_odd" s__law_odd f fd) (hx : mg "_law_odd" = some (.ref f)) (T : Tx K w mg) (hj : J.jx = none) (c__law_press : CalD P w K mg base J 1 "_law_press" s__law_press ["mint", "many"] pp__law_press) (c__law_any : CalD P w K mg base J 2 "_law_any" s__law_any ["mint", "things"] pp__law_any) : CalD P w K mg base J 3 "_law_odd" s__law_odd ["mint", "book", "many"] pp__law_odd :=
  defD_ok (qs := q__law_odd) hj F hx sc__law_odd (FunD.bindsN F fun _ _ _ _ _ _ us hl => match us, hl with | [_, _, _], _ => rfl) len__law_odd (body__law_odd T c__law_press c__law_any) spec__law_odd
abbrev N__law_spoilt : List Str := ["mint", "book", "code", "at", "way", "one"]
theorem sc__law_spoilt : FnScope N__law_spoilt ["mint", "book", "code"] (defScope s__law_spoilt) := ⟨rfl, rfl, rfl, by decide +kernel, rfl, by decide +kernel, by decide +kernel⟩
theorem body__law_spoilt {f : Addr} (T : Tx K w mg) (c__law_press : CalD P w K mg base J 1 "_law_press" s__law_press ["mint", "many"] pp__law_press) (c__law_odd : CalD P w K mg base J 3 "_law_odd" s__law_odd ["mint", "book", "many"] pp__law_odd) (cdv : Value) (A : Around) (outer : List Env) (s : Shared) (H : Hp) (E : XK) (hr : Room 3 (A.deeper (envOfC "_law_spoilt" (defScope s__law_spoilt) s.heap.objs.size f cdv))) :
    PSsd J (cxOf CX0 P w K mg base N__law_spoilt "_law_spoilt" (defScope s__law_spoilt) f cdv A outer s H E).nox (defBody s__law_spoilt) (qSeq (qSet 3 (qIf (qTst (qBin dEq (qDR (qCall pp__law_press (qaN 0 (qaD (qC (.int 3)) qaNil)))) (qC (.int 0)))) (qBin dSub (qDR (qCl cLen (qCons (qLook 2) qNil))) (qC (.int 1))) (qCall pp__law_press (qaN 0 (qaD (qDR (qCl cLen (qCons (qLook 2) qNil))) qaNil)))))
    (qSeq (qSet 4 (qCall pp__law_press (qaN 0 (qaD (qC (.int 6)) qaNil))))
    (qSeq (qSet 5 (qCall pp__law_odd (qaN 0 (qaN 1 (qaD (qDR (qCl cLen (qCons (qLook 2) qNil))) qaNil)))))
    (qSeq (qIfS (qTst (qBinM dLt 4 (qC (.int 4)))) (qSeq (qRet (qBin dAdd (qDR (qBin dAdd (qDR (qSlN 2 qO0 (qO1 (qVar 3)))) (qTup (qCons (qVar 5) qNil)))) (qDR (qSlN 2 (qO1 (qDR (qBinM dAdd 3 (qC (.int 1))))) qO0))))
    qNext) qNext)
    (qSeq (qIfS (qAnd (qTst (qBinM dEq 4 (qC (.int 4)))) (qTst (qBin dGt (qDR (qCl cLen (qCons (qLook 2) qNil))) (qC (.int 1))))) (qSeq (qRet (qBin dAdd (qDR (qSlN 2 qO0 (qO1 (qVar 3)))) (qDR (qSlN 2 (qO1 (qDR (qBinM dAdd 3 (qC (.int 1))))) qO0))))
    qNext) qNext)
    (qSeq (qRet (qIf (qOr (qTst (qBinM dEq 4 (qC (.int 5)))) (qTst (qBin dGt (qDR (qCl cLen (qCons (qLook 2) qNil))) (qC (.int 38))))) (qBin dAdd (qDR (qSlN 2 qO0 (qO1 (qNeg (qC (.int 1)))))) (qTup (qCons (qVar 5) qNil))) (qBinM dAdd 2 (qTup (qCons (qVar 5) qNil)))))
    qNext)))))) :=
  (pssd_cons (psd_set (i := 3) sc__law_spoilt.nd rfl (.inl rfl) (pr_if (pb_cmp (op_dEq hr.units) (nomark _) (pd_of (pr_callC c__law_press hr (by decide) (by rfl) (paa_n (pv 0) (paa_d pd_int paa_nil)))) (pv_ofD pd_int)) (pr_bin op_dSub (pd_of (pr_callB cl_len (by rfl) T.m_len (by decide +kernel) (plv_one (pv_var (pv 2))))) (pv_ofD pd_int)) (pr_callC c__law_press hr (by decide) (by rfl) (paa_n (pv 0) (paa_d (pd_of (pr_callB cl_len (by rfl) T.m_len (by decide +kernel) (plv_one (pv_var (pv 2))))) paa_nil)))))
    (pssd_cons (psd_set (i := 4) sc__law_spoilt.nd rfl (.inl rfl) (pr_callC c__law_press hr (by decide) (by rfl) (paa_n (pv 0) (paa_d pd_int paa_nil))))
    (pssd_cons (psd_set (i := 5) sc__law_spoilt.nd rfl (.inl rfl) (pr_callC c__law_odd hr (by decide) (by rfl) (paa_n (pv 0) (paa_n (pv 1) (paa_d (pd_of (pr_callB cl_len (by rfl) T.m_len (by decide +kernel) (plv_one (pv_var (pv 2))))) paa_nil)))))
    (pssd_cons (psd_if (pb_cmpN op_dLt (nomark _) (pv 4) (pv_ofD pd_int)) (pssd_cons (psd_ret (pr_bin op_dAdd (pd_of (pr_bin op_dAdd (pd_of (pr_slN (pv 2) pod_none (pod_some (pd_var (pv 3))))) (pv_ofD (pd_tup (pl_cons (pd_var (pv 5)) pl_nil) rfl)))) (pv_of (pr_slN (pv 2) (pod_some (pd_of (pr_binN op_dAdd (pv 3) (pv_ofD pd_int)))) pod_none))))
    pssd_nil) pssd_nil)
    (pssd_cons (psd_if (pb_w (pwd_and (pb_cmpN (op_dEq hr.units) (nomark _) (pv 4) (pv_ofD pd_int)) (pwd_and1 (pb_cmp op_dGt (nomark _) (pd_of (pr_callB cl_len (by rfl) T.m_len (by decide +kernel) (plv_one (pv_var (pv 2))))) (pv_ofD pd_int))))) (pssd_cons (psd_ret (pr_bin op_dAdd (pd_of (pr_slN (pv 2) pod_none (pod_some (pd_var (pv 3))))) (pv_of (pr_slN (pv 2) (pod_some (pd_of (pr_binN op_dAdd (pv 3) (pv_ofD pd_int)))) pod_none))))
    pssd_nil) pssd_nil)
    (pssd_cons (psd_ret (pr_if (pb_w (pwd_or (pb_cmpN (op_dEq hr.units) (nomark _) (pv 4) (pv_ofD pd_int)) (pwd_or1 (pb_cmp op_dGt (nomark _) (pd_of (pr_callB cl_len (by rfl) T.m_len (by decide +kernel) (plv_one (pv_var (pv 2))))) (pv_ofD pd_int))))) (pr_bin op_dAdd (pd_of (pr_slN (pv 2) pod_none (pod_some (pd_neg pd_int)))) (pv_ofD (pd_tup (pl_cons (pd_var (pv 5)) pl_nil) rfl))) (pr_binN op_dAdd (pv 2) (pv_ofD (pd_tup (pl_cons (pd_var (pv 5)) pl_nil) rfl)))))
    pssd_nil))))))
theorem ok__law_spoilt {f : Addr} {fd : FuncData} (F : FnP K "_law_spoilt" s__law_spoilt f fd) (hx : mg "_law_spoilt" = some (.ref f)) (T : Tx K w mg) (hj : J.jx = none) (c__law_press : CalD P w K mg base J 1 "_law_press" s__law_press ["mint", "many"] pp__law_press) (c__law_odd : CalD P w K mg base J 3 "_law_odd" s__law_odd ["mint", "book", "many"] pp__law_odd) : CalD P w K mg base J 4 "_law_spoilt" s__law_spoilt ["mint", "book", "code"] pp__law_spoilt :=
  defD_ok (qs := q__law_spoilt) hj F hx sc__law_spoilt (FunD.bindsN F fun _ _ _ _ _ _ us hl => match us, hl with | [_, _, _], _ => rfl) len__law_spoilt (body__law_spoilt T c__law_press c__law_odd) spec__law_spoilt
abbrev N__law_forms : List Str := ["mint", "book", "code", "other", "things", "lap", "name", "moves"]
theorem sc__law_forms : FnScope N__law_forms ["mint", "book", "code"] (defScope s__law_forms) := ⟨rfl, rfl, rfl, by decide +kernel, rfl, by decide +kernel, by decide +kernel⟩
theorem body__law_forms {f : Addr} (T : Tx K w mg) (c__law_asked : CalD P w K mg base J 6 "_law_asked" s__law_asked ["book", "thing", "named"] pp__law_asked) (c__law_any : CalD P w K mg base J 2 "_law_any" s__law_any ["mint", "things"] pp__law_any) (cdv : Value) (A : Around) (outer : List Env) (s : Shared) (H : Hp) (E : XK) (hr : Room 6 (A.deeper (envOfC "_law_forms" (defScope s__law_forms) s.heap.objs.size f cdv))) :
    PSsd J (cxOf CX0 P w K mg base N__law_forms "_law_forms" (defScope s__law_forms) f cdv A outer s H E).nox (defBody s__law_forms) (qSeq (qSet 3 (qCl cTuple (qCons (qDR (qLc (qItD (qVar 1)) (qgTup 2 (qgCons (qgName 6) (qgCons (qgName 7) qgNil))) qYes (qTup (qCons (qDR (qIf (qTst (qBin dLt (qDR (qCl cLen (qCons (qLook 6) qNil))) (qC (.int 8)))) (qBinM dAdd 6 (qC (.str "q"))) (qBin dAdd (qC (.str "q")) (qDR (qSlN 6 (qO1 (qC (.int 1))) qO0))))) (qCons (qVar 7) qNil))) [6, 7])) qNil)))
    (qSeq (qSet 4 (qLst (qCons (qC .none) (qCons (qTup qNil) (qCons (qDR (qLst qNil)) (qCons (qDR (qCl cList (qCons (qLook 2) qNil))) (qCons (qC (.str "stop")) (qCons (qC (.int 0)) (qCons (qC (.bool true)) (qCons (qTup (qCons (qVar 2) qNil)) (qCons (qDR (qLst (qCons (qVar 2) qNil))) (qCons (qDR (qBin dAdd (qDR (qSlN 2 qO0 (qO1 (qNeg (qC (.int 1)))))) (qTup (qCons (qC .none) qNil)))) (qCons (qDR (qBin dAdd (qTup (qCons (qDR (qCl cList (qCons (qDR (qBinM dIx 2 (qC (.int 0)))) qNil))) qNil)) (qDR (qSlN 2 (qO1 (qC (.int 1))) qO0)))) (qCons (qTup (qCons (qC (.str "stop")) qNil)) (qCons (qTup (qCons (qTup (qCons (qC (.str "stop")) qNil)) (qCons (qC (.str "stop")) qNil))) (qCons (qTup (qCons (qTup qNil) qNil)) qNil))))))))))))))))
    (qSeq (qFor (qRng1 (qCons (qC (.int 5)) qNil)) (qgName 5) (qSeq (qIfS (qNot (qTru (qDR (qCall pp__law_asked (qaN 1 (qaD (qDR (qCall pp__law_any (qaN 0 (qaN 4 qaNil)))) (qaD (qC (.bool false)) qaNil))))))) (qSeq (qRet (qRD (qC (.bool false))))
    qNext) qNext)
    qNext))
    (qSeq (qRet (qCall pp__law_asked (qaD (qDR (qCl cTuple (qCons (qDR (qCl cSortD (qCons (qLook 3) qNil))) qNil))) (qaN 2 (qaD (qC (.bool false)) qaNil)))))
    qNext)))) :=
  (pssd_cons (psd_set (i := 3) sc__law_forms.nd rfl (.inl rfl) (pr_callTy (cl_tuple rfl) (by rfl) T.m_tuple (by decide +kernel) (plv_one (pv_of (pr_lc (own := [("name", 6), ("moves", 7)]) rfl sc__law_forms.nd (pit_d (pd_var (pv 1))) (blkOk_by (N := N__law_forms) (sc := defScope s__law_forms) (by decide +kernel)) (fun s1 H1 C1 cl1 fp1 => (pgd_tup rfl (pgds_cons (pgd_name (pg_name (i := 6) sc__law_forms.nd rfl (.inl rfl))) (pgds_cons (pgd_name (pg_name (i := 7) sc__law_forms.nd rfl (.inl rfl))) pgds_nil)))) (fun s1 H1 C1 cl1 fp1 => ptsd_nil) (fun s1 H1 C1 cl1 fp1 => (pd_tup (pl_cons (pd_of (pr_if (pb_cmp op_dLt (nomark _) (pd_of (pr_callB cl_len (by rfl) T.m_len (by decide +kernel) (plv_one (pv_var (pv 6))))) (pv_ofD pd_int)) (pr_binN op_dAdd (pv 6) (pv_ofD pd_str)) (pr_bin op_dAdd pd_str (pv_of (pr_slN (pv 6) (pod_some pd_int) pod_none))))) (pl_cons (pd_var (pv 7)) pl_nil)) rfl)) (by decide))))))
    (pssd_cons (psd_set (i := 4) sc__law_forms.nd rfl (.inl rfl) (pr_lst (pl_cons pd_non (pl_cons (pd_tup pl_nil rfl) (pl_cons (pd_of (pr_lst pl_nil rfl)) (pl_cons (pd_of (pr_callTy (cl_list rfl) (by rfl) T.m_list (by decide +kernel) (plv_one (pv_var (pv 2))))) (pl_cons pd_str (pl_cons pd_int (pl_cons pd_bl (pl_cons (pd_tup (pl_cons (pd_var (pv 2)) pl_nil) rfl) (pl_cons (pd_of (pr_lst (pl_cons (pd_var (pv 2)) pl_nil) rfl)) (pl_cons (pd_of (pr_bin op_dAdd (pd_of (pr_slN (pv 2) pod_none (pod_some (pd_neg pd_int)))) (pv_ofD (pd_tup (pl_cons pd_non pl_nil) rfl)))) (pl_cons (pd_of (pr_bin op_dAdd (pd_tup (pl_cons (pd_of (pr_callTy (cl_list rfl) (by rfl) T.m_list (by decide +kernel) (plv_one (pv_of (pr_ixN (pv 2) (pv_ofD pd_int) (fun _ _ => rfl)))))) pl_nil) rfl) (pv_of (pr_slN (pv 2) (pod_some pd_int) pod_none)))) (pl_cons (pd_tup (pl_cons pd_str pl_nil) rfl) (pl_cons (pd_tup (pl_cons (pd_tup (pl_cons pd_str pl_nil) rfl) (pl_cons pd_str pl_nil)) rfl) (pl_cons (pd_tup (pl_cons (pd_tup pl_nil rfl) pl_nil) rfl) pl_nil)))))))))))))) rfl))
    (pssd_cons (psd_for PassesOwn.never rfl (pit_r1 (by rfl) T.m_range (pl_cons pd_int pl_nil)) (pgd_name (pg_name (i := 5) sc__law_forms.nd rfl (.inl rfl))) (pssd_cons (psd_if (pb_not (pb_tru (pd_of (pr_callC c__law_asked hr (by decide) (by rfl) (paa_n (pv 1) (paa_d (pd_of (pr_callC c__law_any hr (by decide) (by rfl) (paa_n (pv 0) (paa_n (pv 4) paa_nil)))) (paa_d pd_bl paa_nil))))) (by intro _; rfl))) (pssd_cons (psd_ret (pr_of pd_bl))
    pssd_nil) pssd_nil)
    pssd_nil))
    (pssd_cons (psd_ret (pr_callC c__law_asked hr (by decide) (by rfl) (paa_d (pd_of (pr_callTy (cl_tuple rfl) (by rfl) T.m_tuple (by decide +kernel) (plv_one (pv_of (pr_callB (cl_sortD hr.units) (by rfl) T.m_sorted (by decide +kernel) (plv_one (pv_var (pv 3)))))))) (paa_n (pv 2) (paa_d pd_bl paa_nil)))))
    pssd_nil))))
theorem ok__law_forms {f : Addr} {fd : FuncData} (F : FnP K "_law_forms" s__law_forms f fd) (hx : mg "_law_forms" = some (.ref f)) (T : Tx K w mg) (hj : J.jx = none) (c__law_asked : CalD P w K mg base J 6 "_law_asked" s__law_asked ["book", "thing", "named"] pp__law_asked) (c__law_any : CalD P w K mg base J 2 "_law_any" s__law_any ["mint", "things"] pp__law_any) : CalD P w K mg base J 7 "_law_forms" s__law_forms ["mint", "book", "code"] pp__law_forms :=
  defD_ok (qs := q__law_forms) hj F hx sc__law_forms (FunD.bindsN F fun _ _ _ _ _ _ us hl => match us, hl with | [_, _, _], _ => rfl) len__law_forms (body__law_forms T c__law_asked c__law_any) spec__law_forms
abbrev N_law : List Str := ["script", "mint", "great", "most", "book", "code", "lap", "bent"]
theorem sc_law : FnScope N_law ["script"] (defScope s_law) := ⟨rfl, rfl, rfl, by decide +kernel, rfl, by decide +kernel, by decide +kernel⟩
theorem body_law {f : Addr} (T : Tx K w mg) (c__law_mint : CalM P w K mg base 1 "_law_mint" s__law_mint ["script"] pp__law_mint) (c__law_by_hand : CalD P w K mg base (jarN K good) 7 "_law_by_hand" s__law_by_hand [] pp__law_by_hand) (c__law_book : CalD P w K mg base (jarN K good) 3 "_law_book" s__law_book ["mint"] pp__law_book) (c__law_code : CalD P w K mg base (jarN K good) 3 "_law_code" s__law_code ["mint", "book", "most"] pp__law_code) (c__law_press : CalD P w K mg base (jarN K good) 1 "_law_press" s__law_press ["mint", "many"] pp__law_press) (c__law_spoilt : CalD P w K mg base (jarN K good) 4 "_law_spoilt" s__law_spoilt ["mint", "book", "code"] pp__law_spoilt) (c__law_asked : CalD P w K mg base (jarN K good) 6 "_law_asked" s__law_asked ["book", "thing", "named"] pp__law_asked) (c__law_forms : CalD P w K mg base (jarN K good) 7 "_law_forms" s__law_forms ["mint", "book", "code"] pp__law_forms) (cdv : Value) (A : Around) (outer : List Env) (s : Shared) (H : Hp) (E : XK) (hr : Room 7 (A.deeper (envOfC "law" (defScope s_law) s.heap.objs.size f cdv))) :
    PSs (cxOf CX0 P w K mg base N_law "law" (defScope s_law) f cdv A outer s H E).nox (defBody s_law) (tLw K (jarN K good) (qMake 1 good pp__law_mint (qaN 0 qaNil)
    (qSeq (qSet 2 (qBin dEq (qDR (qBin dMod (qDR (qJsee good 1 2)) (qC (.int 7)))) (qC (.int 5))))
    (qSeq (qIfS (qNot (qTru (qDR (qCall pp__law_by_hand qaNil)))) (qSeq (qRet (qRD (qC (.bool false))))
    qNext) qNext)
    (qSeq (qFor (qItD (qDR (qLst (qCons (qDR (qBin dAdd (qC (.int 1)) (qDR (qCall pp__law_press (qaN 1 (qaD (qC (.int 4)) qaNil)))))) (qCons (qDR (qBin dAdd (qC (.int 2)) (qDR (qCall pp__law_press (qaN 1 (qaD (qC (.int 8)) qaNil)))))) (qCons (qDR (qBin dAdd (qC (.int 4)) (qDR (qCall pp__law_press (qaN 1 (qaD (qC (.int 11)) qaNil)))))) (qCons (qDR (qIf (qTru (qVar 2)) (qRD (qC (.int 40))) (qRD (qC (.int 3))))) qNil))))))) (qgName 3) (qSeq (qSet 4 (qCall pp__law_book (qaN 1 qaNil)))
    (qSeq (qSet 5 (qCall pp__law_code (qaN 1 (qaN 4 (qaN 3 qaNil)))))
    (qSeq (qIfS (qOr (qNot (qTru (qDR (qCall pp__law_asked (qaN 4 (qaN 5 (qaD (qC (.bool true)) qaNil))))))) (qNot (qTru (qDR (qCall pp__law_forms (qaN 1 (qaN 4 (qaN 5 qaNil)))))))) (qSeq (qRet (qRD (qC (.bool false))))
    qNext) qNext)
    (qSeq (qFor (qRng1 (qCons (qC (.int 12)) qNil)) (qgName 6) (qSeq (qSet 7 (qCall pp__law_spoilt (qaN 1 (qaN 4 (qaN 5 qaNil)))))
    (qSeq (qIfS (qAnd (qTst (qBinM dGt 6 (qC (.int 8)))) (qTst (qBin dGt (qDR (qCl cLen (qCons (qLook 7) qNil))) (qC (.int 0))))) (qSeq (qSet 7 (qCall pp__law_spoilt (qaN 1 (qaN 4 (qaN 7 qaNil)))))
    qNext) qNext)
    (qSeq (qIfS (qNot (qTru (qDR (qCall pp__law_asked (qaN 4 (qaN 7 (qaD (qC (.bool false)) qaNil))))))) (qSeq (qRet (qRD (qC (.bool false))))
    qNext) qNext)
    qNext))))
    qNext)))))
    (qSeq (qRet (qRD (qC (.bool true))))
    qNext)))))) :=
  (law_make (good := good) (i := 1) c__law_mint hr (by decide) (by rfl) sc_law.nd rfl (.inl rfl) (paa_n (pv 0) paa_nil)
    (pssd_cons (psd_set (i := 2) sc_law.nd rfl (.inl rfl) (pr_cmp (op_dEq hr.units) (nomark _) (pd_of (pr_bin op_dMod (pd_of (pr_jsee (k := 2) (pv 1) rfl)) (pv_ofD pd_int))) (pv_ofD pd_int)))
    (pssd_cons (psd_if (pb_not (pb_tru (pd_of (pr_call0C c__law_by_hand hr (by decide) (by rfl))) (by intro _; rfl))) (pssd_cons (psd_ret (pr_of pd_bl))
    pssd_nil) pssd_nil)
    (pssd_cons (psd_for PassesOwn.never rfl (pit_d (pd_of (pr_lst (pl_cons (pd_of (pr_bin op_dAdd pd_int (pv_of (pr_callC c__law_press hr (by decide) (by rfl) (paa_n (pv 1) (paa_d pd_int paa_nil)))))) (pl_cons (pd_of (pr_bin op_dAdd pd_int (pv_of (pr_callC c__law_press hr (by decide) (by rfl) (paa_n (pv 1) (paa_d pd_int paa_nil)))))) (pl_cons (pd_of (pr_bin op_dAdd pd_int (pv_of (pr_callC c__law_press hr (by decide) (by rfl) (paa_n (pv 1) (paa_d pd_int paa_nil)))))) (pl_cons (pd_of (pr_if (pb_tru (pd_var (pv 2)) (by intro _; rfl)) (pr_of pd_int) (pr_of pd_int))) pl_nil)))) rfl))) (pgd_name (pg_name (i := 3) sc_law.nd rfl (.inl rfl))) (pssd_cons (psd_set (i := 4) sc_law.nd rfl (.inl rfl) (pr_callC c__law_book hr (by decide) (by rfl) (paa_n (pv 1) paa_nil)))
    (pssd_cons (psd_set (i := 5) sc_law.nd rfl (.inl rfl) (pr_callC c__law_code hr (by decide) (by rfl) (paa_n (pv 1) (paa_n (pv 4) (paa_n (pv 3) paa_nil)))))
    (pssd_cons (psd_if (pb_w (pwd_or (pb_not (pb_tru (pd_of (pr_callC c__law_asked hr (by decide) (by rfl) (paa_n (pv 4) (paa_n (pv 5) (paa_d pd_bl paa_nil))))) (by intro _; rfl))) (pwd_or1 (pb_not (pb_tru (pd_of (pr_callC c__law_forms hr (by decide) (by rfl) (paa_n (pv 1) (paa_n (pv 4) (paa_n (pv 5) paa_nil))))) (by intro _; rfl)))))) (pssd_cons (psd_ret (pr_of pd_bl))
    pssd_nil) pssd_nil)
    (pssd_cons (psd_for PassesOwn.never rfl (pit_r1 (by rfl) T.m_range (pl_cons pd_int pl_nil)) (pgd_name (pg_name (i := 6) sc_law.nd rfl (.inl rfl))) (pssd_cons (psd_set (i := 7) sc_law.nd rfl (.inl rfl) (pr_callC c__law_spoilt hr (by decide) (by rfl) (paa_n (pv 1) (paa_n (pv 4) (paa_n (pv 5) paa_nil)))))
    (pssd_cons (psd_if (pb_w (pwd_and (pb_cmpN op_dGt (nomark _) (pv 6) (pv_ofD pd_int)) (pwd_and1 (pb_cmp op_dGt (nomark _) (pd_of (pr_callB cl_len (by rfl) T.m_len (by decide +kernel) (plv_one (pv_var (pv 7))))) (pv_ofD pd_int))))) (pssd_cons (psd_set (i := 7) sc_law.nd rfl (.inl rfl) (pr_callC c__law_spoilt hr (by decide) (by rfl) (paa_n (pv 1) (paa_n (pv 4) (paa_n (pv 7) paa_nil)))))
    pssd_nil) pssd_nil)
    (pssd_cons (psd_if (pb_not (pb_tru (pd_of (pr_callC c__law_asked hr (by decide) (by rfl) (paa_n (pv 4) (paa_n (pv 7) (paa_d pd_bl paa_nil))))) (by intro _; rfl))) (pssd_cons (psd_ret (pr_of pd_bl))
    pssd_nil) pssd_nil)
    pssd_nil))))
    pssd_nil)))))
    (pssd_cons (psd_ret (pr_of pd_bl))
    pssd_nil)))))
theorem ok_law {f : Addr} {fd : FuncData} (F : FnP K "law" s_law f fd) (T : Tx K w mg) (c__law_mint : CalM P w K mg base 1 "_law_mint" s__law_mint ["script"] pp__law_mint) (c__law_by_hand : CalD P w K mg base (jarN K good) 7 "_law_by_hand" s__law_by_hand [] pp__law_by_hand) (c__law_book : CalD P w K mg base (jarN K good) 3 "_law_book" s__law_book ["mint"] pp__law_book) (c__law_code : CalD P w K mg base (jarN K good) 3 "_law_code" s__law_code ["mint", "book", "most"] pp__law_code) (c__law_press : CalD P w K mg base (jarN K good) 1 "_law_press" s__law_press ["mint", "many"] pp__law_press) (c__law_spoilt : CalD P w K mg base (jarN K good) 4 "_law_spoilt" s__law_spoilt ["mint", "book", "code"] pp__law_spoilt) (c__law_asked : CalD P w K mg base (jarN K good) 6 "_law_asked" s__law_asked ["book", "thing", "named"] pp__law_asked) (c__law_forms : CalD P w K mg base (jarN K good) 7 "_law_forms" s__law_forms ["mint", "book", "code"] pp__law_forms) : FnOk P w K mg base CX0 8 f fd ["script"] (spLaw K) :=
  lawD_ok (qs := q_law) F sc_law rfl (body_law T c__law_mint c__law_by_hand c__law_book c__law_code c__law_press c__law_spoilt c__law_asked c__law_forms) spec_law
end
def d__law_mint : He.DefD := ⟨("_law_mint", none), "_law_mint", "_law_mint", defArgs s__law_mint, defBody s__law_mint, defScope s__law_mint, [], []⟩
def d__law_is_number : He.DefD := ⟨("_law_is_number", none), "_law_is_number", "_law_is_number", defArgs s__law_is_number, defBody s__law_is_number, defScope s__law_is_number, [], []⟩
def d__law_wrong : He.DefD := ⟨("_law_wrong", none), "_law_wrong", "_law_wrong", defArgs s__law_wrong, defBody s__law_wrong, defScope s__law_wrong, [], []⟩
def d__law_due : He.DefD := ⟨("_law_due", none), "_law_due", "_law_due", defArgs s__law_due, defBody s__law_due, defScope s__law_due, [], []⟩
def d_is_integer : He.DefD := ⟨("is_integer", none), "is_integer", "is_integer", defArgs s_is_integer, defBody s_is_integer, defScope s_is_integer, [], []⟩
def d_is_number : He.DefD := ⟨("is_number", none), "is_number", "is_number", defArgs s_is_number, defBody s_is_number, defScope s_is_number, [], []⟩
def d_call_names : He.DefD := ⟨("call_names", none), "call_names", "call_names", defArgs s_call_names, defBody s_call_names, defScope s_call_names, [], []⟩
def d_step_wrong : He.DefD := ⟨("step_wrong", none), "step_wrong", "step_wrong", defArgs s_step_wrong, defBody s_step_wrong, defScope s_step_wrong, [], []⟩
def d_is_step : He.DefD := ⟨("is_step", none), "is_step", "is_step", defArgs s_is_step, defBody s_is_step, defScope s_is_step, [], []⟩
def d_check_code : He.DefD := ⟨("check_code", none), "check_code", "check_code", defArgs s_check_code, defBody s_check_code, defScope s_check_code, [], []⟩
def d__law_heard : He.DefD := ⟨("_law_heard", none), "_law_heard", "_law_heard", defArgs s__law_heard, defBody s__law_heard, defScope s__law_heard, [], []⟩
def d__law_asked : He.DefD := ⟨("_law_asked", none), "_law_asked", "_law_asked", defArgs s__law_asked, defBody s__law_asked, defScope s__law_asked, [], []⟩
def d__law_by_hand : He.DefD := ⟨("_law_by_hand", none), "_law_by_hand", "_law_by_hand", defArgs s__law_by_hand, defBody s__law_by_hand, defScope s__law_by_hand, [], []⟩
def d__law_press : He.DefD := ⟨("_law_press", none), "_law_press", "_law_press", defArgs s__law_press, defBody s__law_press, defScope s__law_press, [], []⟩
def d__law_any : He.DefD := ⟨("_law_any", none), "_law_any", "_law_any", defArgs s__law_any, defBody s__law_any, defScope s__law_any, [], []⟩
def d__law_book : He.DefD := ⟨("_law_book", none), "_law_book", "_law_book", defArgs s__law_book, defBody s__law_book, defScope s__law_book, [], []⟩
def d__law_letters : He.DefD := ⟨("_law_letters", none), "_law_letters", "_law_letters", defArgs s__law_letters, defBody s__law_letters, defScope s__law_letters, [], []⟩
def d__law_nodes : He.DefD := ⟨("_law_nodes", none), "_law_nodes", "_law_nodes", defArgs s__law_nodes, defBody s__law_nodes, defScope s__law_nodes, [], []⟩
def d__law_code : He.DefD := ⟨("_law_code", none), "_law_code", "_law_code", defArgs s__law_code, defBody s__law_code, defScope s__law_code, [], []⟩
def d__law_odd : He.DefD := ⟨("_law_odd", none), "_law_odd", "_law_odd", defArgs s__law_odd, defBody s__law_odd, defScope s__law_odd, [], []⟩
def d__law_spoilt : He.DefD := ⟨("_law_spoilt", none), "_law_spoilt", "_law_spoilt", defArgs s__law_spoilt, defBody s__law_spoilt, defScope s__law_spoilt, [], []⟩
def d__law_forms : He.DefD := ⟨("_law_forms", none), "_law_forms", "_law_forms", defArgs s__law_forms, defBody s__law_forms, defScope s__law_forms, [], []⟩
def d_law : He.DefD := ⟨("law", none), "law", "law", defArgs s_law, defBody s_law, defScope s_law, [], []⟩
def fn : List He.DefD := [d__law_mint, d__law_is_number, d__law_wrong, d__law_due, d_is_integer, d_is_number, d_call_names, d_step_wrong, d_is_step, d_check_code, d__law_heard, d__law_asked, d__law_by_hand, d__law_press, d__law_any, d__law_book, d__law_letters, d__law_nodes, d__law_code, d__law_odd, d__law_spoilt, d__law_forms, d_law]
def fa : List He.Fa := [.glo "_law_mint", .glo "_law_is_number", .glo "_law_wrong", .glo "_law_due", .glo "is_integer", .glo "is_number", .glo "call_names", .glo "step_wrong", .glo "is_step", .glo "check_code", .glo "_law_heard", .glo "_law_asked", .glo "_law_by_hand", .glo "_law_press", .glo "_law_any", .glo "_law_book", .glo "_law_letters", .glo "_law_nodes", .glo "_law_code", .glo "_law_odd", .glo "_law_spoilt", .glo "_law_forms", .glo "law", .glo "SIZES", .free "abs", .free "all", .free "bool", .free "enumerate", .free "int", .free "isinstance", .free "len", .free "list", .free "max", .free "range", .free "sorted", .free "str", .free "tuple", .glo "BadCode", .glo "CallError", .free "super"]
def ks_SIZES : List Str := ["do", "undo", "fork", "jump", "stop"]
def ex (K : PySem.W.Frag) : Bool := true && (tabB K (He.ga K "SIZES") tb_SIZES) && (decide (PySem.W.kitOne K (.ref (He.ga K "BadCode")) (.ref (He.ga K "BadCode")) = some true)) && (decide (PySem.W.exmOne K (.ref (He.ga K "BadCode")) (.ref (He.ga K "CallError")) = some true))
theorem exB_SIZES {K : PySem.W.Frag} (h : ex K = true) : (tabB K (He.ga K "SIZES") tb_SIZES) = true := (Bool.and_eq_true_iff.mp (Bool.and_eq_true_iff.mp (Bool.and_eq_true_iff.mp h).1).1).2
theorem exB_k1_BadCode_BadCode {K : PySem.W.Frag} (h : ex K = true) : (decide (PySem.W.kitOne K (.ref (He.ga K "BadCode")) (.ref (He.ga K "BadCode")) = some true)) = true := (Bool.and_eq_true_iff.mp (Bool.and_eq_true_iff.mp h).1).2
theorem exB_e_BadCode_CallError {K : PySem.W.Frag} (h : ex K = true) : (decide (PySem.W.exmOne K (.ref (He.ga K "BadCode")) (.ref (He.ga K "CallError")) = some true)) = true := (Bool.and_eq_true_iff.mp h).2
def ts : List He.Tab := [(fun K => He.ga K "SIZES", ks_SIZES)]

def xs : List XcD := [xc_BadCode]
theorem sh_BadCode : ∃ es sts q0 q1 q2 q4 q5 pl ar, XcShape R.prog file xc_BadCode "place" ["word"] es sts q0 q1 q2 q4 q5 pl ar := ⟨_, _, _, _, _, _, _, _, _, {
  hps := rfl
  hbody := rfl
  hes := .cons (.cons .nil)
  hst := fun _ _ _ _ => .cons rfl (.cons rfl .nil)
  he := fun _ _ _ _ => rfl
  hi := fun _ _ _ _ => rfl
  hsw := fun _ _ _ _ => rfl
  hp := rfl
  har := rfl
  hfile := by decide +kernel
  htop := by decide +kernel
  hks := by decide +kernel
  hkc := by decide +kernel
  hk := rfl
  hco := rfl
  hgen := rfl
  hcell := by decide +kernel
  hloc := fun y hy => by
    repeat (first | (cases hy; done) | (rcases List.mem_cons.mp hy with rfl | hy; exact ⟨by rfl, by decide⟩))
  nd := by decide
  h9 := by decide
  hb := fun _ _ _ _ _ _ _ us hl => match us, hl with | [_, _, _], _ => rfl }⟩
abbrev hk : PySem.W.Hook := hookC 4 fa fn ts ex file xs
def ob (s : PySem.W.SharedT) : AlC := obsC 4 fa fn ts ex file xs (HandSHeadRun.getT s)
theorem ob_eq (s : PySem.W.SharedT) : ob s = hk.obs s.abs := obsC_eq (HandSHeadRun.getT_eq s)
/-- the world with one of its habits told -/
def mkW (w : World) (b : Bool) : World := { w with params := { w.params with followText := fun s => if s = "special-get-raises" then b else w.params.followText s } }
theorem mkW_eq (w : World) : w = mkW w (w.params.followText "special-get-raises") := by
  have e : (fun s => if s = "special-get-raises" then w.params.followText "special-get-raises" else w.params.followText s) = w.params.followText := by
    funext s
    by_cases h : s = "special-get-raises"
    · rw [if_pos h, h]
    · rw [if_neg h]
  unfold mkW
  rw [e]
theorem runT (w : World) : HandSHeadRun.RunEq R (PySem.W.view R.prog [30]) hk ob 20000 ["CallError", "BadCode", "call_names", "is_integer", "is_number", "SIZES", "is_step", "step_wrong", "check_code", "_law_mint", "_law_press", "_law_any", "_law_book", "_law_letters", "_law_nodes", "_law_code", "_law_is_number", "_law_wrong", "_law_due", "_law_heard", "_law_asked", "_law_odd", "_law_spoilt", "_law_forms", "_law_by_hand"] (mkW w true) := by
  intro os
  kernel_rfl
theorem runF (w : World) : HandSHeadRun.RunEq R (PySem.W.view R.prog [30]) hk ob 20000 ["CallError", "BadCode", "call_names", "is_integer", "is_number", "SIZES", "is_step", "step_wrong", "check_code", "_law_mint", "_law_press", "_law_any", "_law_book", "_law_letters", "_law_nodes", "_law_code", "_law_is_number", "_law_wrong", "_law_due", "_law_heard", "_law_asked", "_law_odd", "_law_spoilt", "_law_forms", "_law_by_hand"] (mkW w false) := by
  intro os
  kernel_rfl
theorem run (w : World) : HandSHeadRun.RunEq R (PySem.W.view R.prog [30]) hk ob 20000 ["CallError", "BadCode", "call_names", "is_integer", "is_number", "SIZES", "is_step", "step_wrong", "check_code", "_law_mint", "_law_press", "_law_any", "_law_book", "_law_letters", "_law_nodes", "_law_code", "_law_is_number", "_law_wrong", "_law_due", "_law_heard", "_law_asked", "_law_odd", "_law_spoilt", "_law_forms", "_law_by_hand"] w := by
  rw [mkW_eq w]
  cases w.params.followText "special-get-raises"
  · exact runF w
  · exact runT w
theorem facts {w : World} {K : PySem.W.Frag} {h : Heap} {mg : Str → Option Value} {f : Addr} (X : K.In h) (G : h.Ns mainGlobals mg) (hfa : mg ("law" : Str) = some (.ref f)) (c0 : SaysC fa fn ts ex file xs w K) :
    ∃ fd : FuncData, (∀ (s : Shared) (v : Value), BindsTo s fd ⟨[v], []⟩ [("script", v)]) ∧ ∀ base : Heap, K.In base → base.Ns mainGlobals mg → FnOk R.prog w K mg base CX0 8 f fd ["script"] (spLaw K) := by
  have c := c0.t.d
  have cx := c0.more
  obtain ⟨fd__law_mint, F__law_mint⟩ := c.def_ 0 (d := d__law_mint) rfl
  have g__law_mint := He.glo_ok X G (c.fact 0 (f := .glo "_law_mint") rfl)
  obtain ⟨fd__law_is_number, F__law_is_number⟩ := c.def_ 1 (d := d__law_is_number) rfl
  have g__law_is_number := He.glo_ok X G (c.fact 1 (f := .glo "_law_is_number") rfl)
  obtain ⟨fd__law_wrong, F__law_wrong⟩ := c.def_ 2 (d := d__law_wrong) rfl
  have g__law_wrong := He.glo_ok X G (c.fact 2 (f := .glo "_law_wrong") rfl)
  obtain ⟨fd__law_due, F__law_due⟩ := c.def_ 3 (d := d__law_due) rfl
  have g__law_due := He.glo_ok X G (c.fact 3 (f := .glo "_law_due") rfl)
  obtain ⟨fd_is_integer, F_is_integer⟩ := c.def_ 4 (d := d_is_integer) rfl
  have g_is_integer := He.glo_ok X G (c.fact 4 (f := .glo "is_integer") rfl)
  obtain ⟨fd_is_number, F_is_number⟩ := c.def_ 5 (d := d_is_number) rfl
  have g_is_number := He.glo_ok X G (c.fact 5 (f := .glo "is_number") rfl)
  obtain ⟨fd_call_names, F_call_names⟩ := c.def_ 6 (d := d_call_names) rfl
  have g_call_names := He.glo_ok X G (c.fact 6 (f := .glo "call_names") rfl)
  obtain ⟨fd_step_wrong, F_step_wrong⟩ := c.def_ 7 (d := d_step_wrong) rfl
  have g_step_wrong := He.glo_ok X G (c.fact 7 (f := .glo "step_wrong") rfl)
  obtain ⟨fd_is_step, F_is_step⟩ := c.def_ 8 (d := d_is_step) rfl
  have g_is_step := He.glo_ok X G (c.fact 8 (f := .glo "is_step") rfl)
  obtain ⟨fd_check_code, F_check_code⟩ := c.def_ 9 (d := d_check_code) rfl
  have g_check_code := He.glo_ok X G (c.fact 9 (f := .glo "check_code") rfl)
  obtain ⟨fd__law_heard, F__law_heard⟩ := c.def_ 10 (d := d__law_heard) rfl
  have g__law_heard := He.glo_ok X G (c.fact 10 (f := .glo "_law_heard") rfl)
  obtain ⟨fd__law_asked, F__law_asked⟩ := c.def_ 11 (d := d__law_asked) rfl
  have g__law_asked := He.glo_ok X G (c.fact 11 (f := .glo "_law_asked") rfl)
  obtain ⟨fd__law_by_hand, F__law_by_hand⟩ := c.def_ 12 (d := d__law_by_hand) rfl
  have g__law_by_hand := He.glo_ok X G (c.fact 12 (f := .glo "_law_by_hand") rfl)
  obtain ⟨fd__law_press, F__law_press⟩ := c.def_ 13 (d := d__law_press) rfl
  have g__law_press := He.glo_ok X G (c.fact 13 (f := .glo "_law_press") rfl)
  obtain ⟨fd__law_any, F__law_any⟩ := c.def_ 14 (d := d__law_any) rfl
  have g__law_any := He.glo_ok X G (c.fact 14 (f := .glo "_law_any") rfl)
  obtain ⟨fd__law_book, F__law_book⟩ := c.def_ 15 (d := d__law_book) rfl
  have g__law_book := He.glo_ok X G (c.fact 15 (f := .glo "_law_book") rfl)
  obtain ⟨fd__law_letters, F__law_letters⟩ := c.def_ 16 (d := d__law_letters) rfl
  have g__law_letters := He.glo_ok X G (c.fact 16 (f := .glo "_law_letters") rfl)
  obtain ⟨fd__law_nodes, F__law_nodes⟩ := c.def_ 17 (d := d__law_nodes) rfl
  have g__law_nodes := He.glo_ok X G (c.fact 17 (f := .glo "_law_nodes") rfl)
  obtain ⟨fd__law_code, F__law_code⟩ := c.def_ 18 (d := d__law_code) rfl
  have g__law_code := He.glo_ok X G (c.fact 18 (f := .glo "_law_code") rfl)
  obtain ⟨fd__law_odd, F__law_odd⟩ := c.def_ 19 (d := d__law_odd) rfl
  have g__law_odd := He.glo_ok X G (c.fact 19 (f := .glo "_law_odd") rfl)
  obtain ⟨fd__law_spoilt, F__law_spoilt⟩ := c.def_ 20 (d := d__law_spoilt) rfl
  have g__law_spoilt := He.glo_ok X G (c.fact 20 (f := .glo "_law_spoilt") rfl)
  obtain ⟨fd__law_forms, F__law_forms⟩ := c.def_ 21 (d := d__law_forms) rfl
  have g__law_forms := He.glo_ok X G (c.fact 21 (f := .glo "_law_forms") rfl)
  obtain ⟨fd_law, F_law⟩ := c.def_ 22 (d := d_law) rfl
  have e := hfa.symm.trans (He.glo_ok X G (c.fact 22 (f := .glo "law") rfl))
  cases e
  have b := FunD.bindsA (ps := ["script"]) F_law fun _ _ _ _ _ _ us hl => match us, hl with | [_], _ => rfl
  have T : Tx K w mg := ⟨He.free_ok X G (c.fact 24 (f := .free "abs") rfl), He.free_ok X G (c.fact 25 (f := .free "all") rfl), He.free_ok X G (c.fact 26 (f := .free "bool") rfl), He.free_ok X G (c.fact 27 (f := .free "enumerate") rfl), He.free_ok X G (c.fact 28 (f := .free "int") rfl), He.free_ok X G (c.fact 29 (f := .free "isinstance") rfl), He.free_ok X G (c.fact 30 (f := .free "len") rfl), He.free_ok X G (c.fact 31 (f := .free "list") rfl), He.free_ok X G (c.fact 32 (f := .free "max") rfl), He.free_ok X G (c.fact 33 (f := .free "range") rfl), He.free_ok X G (c.fact 34 (f := .free "sorted") rfl), He.free_ok X G (c.fact 35 (f := .free "str") rfl), He.free_ok X G (c.fact 36 (f := .free "tuple") rfl), tabB_ok (x := "SIZES") (exB_SIZES cx) (He.glo_ok X G (c.fact 23 (f := .glo "SIZES") rfl)) (c0.t.tab 0 (t := (fun K => He.ga K "SIZES", ks_SIZES))), (He.glo_ok X G (c.fact 37 (f := .glo "BadCode") rfl)), (He.glo_ok X G (c.fact 38 (f := .glo "CallError") rfl)), (c0.xc _ (by simp [xs])), of_decide_eq_true (exB_k1_BadCode_BadCode cx), (fun y C ps hT hm => by
    rcases xt_cases hT with ⟨rfl, _⟩
    · have e := hm.symm.trans (He.glo_ok X G (c.fact 37 (f := .glo "BadCode") rfl))
      cases e
      exact of_decide_eq_true (exB_e_BadCode_CallError cx))⟩
  refine ⟨fd_law, fun s v => b s [v] rfl, fun base _ _ => ?_⟩
  obtain ⟨_, _, _, _, _, _, _, _, _, S_BadCode⟩ := sh_BadCode
  have x_BadCode := xcOk_of (P := R.prog) (w := w) (base := base) (c0.xc _ (by simp [xs])) S_BadCode (He.free_ok X G (c.fact 39 (f := .free "super") rfl)) (He.glo_ok X G (c.fact 37 (f := .glo "BadCode") rfl))
  have k__law_mint := ok__law_mint (P := R.prog) (w := w) (base := base) F__law_mint g__law_mint T 
  have k__law_is_number := ok__law_is_number (P := R.prog) (w := w) (base := base) (J := jarN K good) F__law_is_number g__law_is_number T rfl 
  have k__law_wrong := ok__law_wrong (P := R.prog) (w := w) (base := base) (J := jarN K good) F__law_wrong g__law_wrong T rfl k__law_is_number
  have k__law_due := ok__law_due (P := R.prog) (w := w) (base := base) (J := jarN K good) F__law_due g__law_due T rfl k__law_wrong
  have k_is_integer := ok_is_integer (P := R.prog) (w := w) (base := base) (J := jarN K good) F_is_integer g_is_integer T rfl 
  have k_is_number := ok_is_number (P := R.prog) (w := w) (base := base) (J := jarN K good) F_is_number g_is_number T rfl k_is_integer
  have k_call_names := ok_call_names (P := R.prog) (w := w) (base := base) (J := jarN K good) F_call_names g_call_names T rfl 
  have k_step_wrong := ok_step_wrong (P := R.prog) (w := w) (base := base) (J := jarN K good) F_step_wrong g_step_wrong T rfl k_is_number k_call_names
  have k_is_step := ok_is_step (P := R.prog) (w := w) (base := base) (J := jarN K good) F_is_step g_is_step T rfl 
  have k_check_code := ok_check_code (P := R.prog) (w := w) (base := base) (J := jarN K good) F_check_code g_check_code T rfl x_BadCode k_step_wrong k_is_step
  have k__law_heard := ok__law_heard (P := R.prog) (w := w) (base := base) (J := jarN K good) F__law_heard g__law_heard T rfl k_check_code
  have k__law_asked := ok__law_asked (P := R.prog) (w := w) (base := base) (J := jarN K good) F__law_asked g__law_asked T rfl k__law_heard k__law_due
  have k__law_by_hand := ok__law_by_hand (P := R.prog) (w := w) (base := base) (J := jarN K good) F__law_by_hand g__law_by_hand T rfl k__law_due k__law_asked
  have k__law_press := ok__law_press (P := R.prog) (w := w) (base := base) F__law_press g__law_press T
  have k__law_any := ok__law_any (P := R.prog) (w := w) (base := base) (J := jarN K good) F__law_any g__law_any T rfl k__law_press
  have k__law_book := ok__law_book (P := R.prog) (w := w) (base := base) (J := jarN K good) F__law_book g__law_book T rfl k__law_any k__law_press
  have k__law_letters := ok__law_letters (P := R.prog) (w := w) (base := base) (J := jarN K good) F__law_letters g__law_letters T rfl 
  have k__law_nodes := ok__law_nodes (P := R.prog) (w := w) (base := base) (J := jarN K good) F__law_nodes g__law_nodes T rfl k__law_letters
  have k__law_code := ok__law_code (P := R.prog) (w := w) (base := base) (J := jarN K good) F__law_code g__law_code T rfl k__law_press k__law_any k__law_nodes
  have k__law_odd := ok__law_odd (P := R.prog) (w := w) (base := base) (J := jarN K good) F__law_odd g__law_odd T rfl k__law_press k__law_any
  have k__law_spoilt := ok__law_spoilt (P := R.prog) (w := w) (base := base) (J := jarN K good) F__law_spoilt g__law_spoilt T rfl k__law_press k__law_odd
  have k__law_forms := ok__law_forms (P := R.prog) (w := w) (base := base) (J := jarN K good) F__law_forms g__law_forms T rfl k__law_asked k__law_any
  exact ok_law F_law T k__law_mint k__law_by_hand k__law_book k__law_code k__law_press k__law_spoilt k__law_asked k__law_forms
end K15
open PySem PySem.W PySem.Calls PyProof.Rows
theorem PySem.Challenge.cw_calledloose_k15_check_code_holds : PySem.Challenge.rw_calledloose_k15_check_code.Holds := by
  w_on; o_law
  refine HandSHeadRun.head_any (r := OpenLaw.row PySem.Challenge.rw_calledloose_k15_check_code) (q := view (OpenLaw.row PySem.Challenge.rw_calledloose_k15_check_code).prog [30]) (H := K15.hk) (ob := K15.ob) (M := 20000) (loose := ["CallError", "BadCode", "call_names", "is_integer", "is_number", "SIZES", "is_step", "step_wrong", "check_code", "_law_mint", "_law_press", "_law_any", "_law_book", "_law_letters", "_law_nodes", "_law_code", "_law_is_number", "_law_wrong", "_law_due", "_law_heard", "_law_asked", "_law_odd", "_law_spoilt", "_law_forms", "_law_by_hand"]) (d := HandSHeadRun.topDef (OpenLaw.row PySem.Challenge.rw_calledloose_k15_check_code).prog 30) (kwd := []) K15.ob_eq
    (by kernel_rfl) (fun s => by kernel_rfl) K15.run (by kernel_rfl) (by kernel_rfl) (by kernel_rfl) (by rfl) (by first | assumption | decide +kernel) (by decide +kernel) ⟨rfl, rfl, rfl, rfl, rfl, by decide +kernel⟩ ?hw ?hc
  case hw => w_witness2
  case hc =>
    refine L2.walk_ofE (l := PySem.Challenge.rw_calledloose_k15_check_code) (n := 63) (k := 8) (x := "script") (CX := L2.CX0) rfl (by decide) (by kernel_rfl) ⟨rfl, by decide, by decide⟩ ?F (fun _ _ _ _ z => z)
    intro w mg fa h Y G hmg0
    obtain ⟨K, KX, c⟩ := Y
    have hmg : mg ("law" : PySem.Str) = some (.ref fa) := by
      have e : (HandSHeadRun.topDef (OpenLaw.row PySem.Challenge.rw_calledloose_k15_check_code).prog 30).name = ("law" : PySem.Str) := by kernel_rfl
      rw [← e]
      exact hmg0
    obtain ⟨fd, hb, hF⟩ := K15.facts (w := w) KX G hmg c
    exact ⟨K, fd, Zd.spLaw K, KX, hb, fun H a ns hl _ hS => ⟨a, ns, rfl, hS, hl, fun _ => rfl⟩, hF⟩

