import PyProof.Rows.All
import Wide.All
import OpenK.AllK
import Wide.FinOn
import KE.KDictKeyed
import HandS.ForMost
import HandS.ForExc
import HandS.TryMany
import HandS.ExcInit
import HandS.ExcField
import HandS.IsInst
import HandS.Gcd
import HandS.Defaults
import HandS.HeadHook1
import HandS.HeadHook2
import KE.DataMinMax
import HandS.HeadHook3
import HandS.HeadHook4
import KE.KStateDown
import Lean
import HandS.Head0
import HandS.Head1
import HandS.Head2
import HandS.Head3
import HandS.HeadEnd
import PyProof.Rows.SeqMore
import KE.KEqDeep
import KE.KEqSeq
import PySem.Challenge.RW_tautparcel_k27_whole_strips_go_on_and_co
set_option Elab.async false
set_option linter.all false
set_option maxRecDepth 100000
set_option maxHeartbeats 4000000
/-! A layer of data over the hand layer: what stands in the names is told as data (PyData, instances with their fields, one dict), and what an expression, a statement does to that data. -/
namespace K27
open PySem PySem.Spec PyProof.Rows L2

/-! ### the data -/
inductive VD where
  | d (x : PyData)
  | ob (C : Addr) (fs : List (Str × PyData))
  | dc (kvs : List (NestedKey × PyData))
  | l2 (C : Addr) (fs : List (Str × PyData)) (y : PyData)
inductive Slt where
  | v (r : VD)
  | mu (ds : List PyData)
  | md (kvs : List (NestedKey × PyData))
  | hd
  | ad (a : Addr)
abbrev Gm := List (Option Slt)
structure Zt where
  P : Program
  w : World
  K : PySem.W.Frag
  M : Option Addr
def keyD : NestedKey → PyData
  | .none => .none
  | .num i => .int i
  | .text x => .str x
  | .tup ks => .tuple (keysD ks)
where keysD : List NestedKey → List PyData
  | [] => []
  | k :: ks => keyD k :: keysD ks
/-- a dict whose keys are nested tuples, by its entries -/
def dcO (P : Program) (w : World) (a : Addr) (xs : List (NestedKey × Addr × Value)) : HO := .ext fun h => ∃ o es ep, h.get? a = some o ∧ o.ExactDict ∧ o.data = .dict es ep ∧ es.toList = xs.map (entryOfKey (nestedKind P w))
structure DcOk (Z : Zt) (B : Hp) (xs : List (NestedKey × Addr × Value)) (kvs : List (NestedKey × PyData)) : Prop where
  pr : Paired (fun (x : NestedKey × Addr × Value) (y : NestedKey × PyData) => x.1 = y.1 ∧ (Dp Z.K B (.ref x.2.1) (keyD x.1) ∧ x.1.depth ≤ 8) ∧ ∃ v, RelV v x.2.2 ∧ Dp Z.K B v y.2) xs kvs
  nd : (xs.map (·.1)).Nodup
def VOk (Z : Zt) (B : Hp) (v : V) : VD → Prop
  | .d x => Dp Z.K B v x
  | .ob C fs => ∃ a dx vs, v = .ref a ∧ B a = some (.ins C dx vs) ∧ vs.map (·.1) = fs.map (·.1) ∧ DpAll Z.K B (vs.map (·.2)) (fs.map (·.2))
  | .dc kvs => ∃ a xs, v = .ref a ∧ (a == sysModules) = false ∧ B a = some (dcO Z.P Z.w a xs) ∧ DcOk Z B xs kvs
  | .l2 C fs y => ∃ l a u dx vs, v = .ref l ∧ SqL Z.K B l [.ref a, u] ∧ B a = some (.ins C dx vs) ∧ vs.map (·.1) = fs.map (·.1) ∧ DpAll Z.K B (vs.map (·.2)) (fs.map (·.2)) ∧ Dp Z.K B u y

/-! ### growing -/
def SameM (M : Option Addr) (H H' : Hp) : Prop := ∀ a o, M ≠ some a → H a = some o → H' a = some o
theorem SameM.of {M : Option Addr} {H H' : Hp} (h : Same H H') : SameM M H H' := fun a o _ e => h a o e
theorem SameM.trans {M : Option Addr} {H H1 H2 : Hp} (a : SameM M H H1) (b : SameM M H1 H2) : SameM M H H2 := fun x o n e => b x o n (a x o n e)
theorem sqt_mono {K : PySem.W.Frag} {H H' : Hp} {a : Addr} {xs : List V} (e : Same H H') (h : SqT K H a xs) : SqT K H' a xs := by
  rcases h with (h | ⟨o, h⟩) | h
  · exact .inl (.inl (e _ _ h))
  · exact .inl (.inr ⟨o, e _ _ h⟩)
  · exact .inr h
mutual
theorem dp_mono {K : PySem.W.Frag} {H H' : Hp} (e : Same H H') : ∀ (d : PyData) (v : V), Dp K H v d → Dp K H' v d
  | .none, _, h => by cases h; exact .non
  | .bool b, _, h => by cases h; exact .bl b
  | .int i, _, h => by cases h; exact .int i
  | .str x, _, h => by cases h; exact .str x
  | .list ds, _, h => by
    cases h with
    | lst hs ha => exact .lst (e.seq hs) (dpall_mono e ds _ ha)
  | .tuple ds, _, h => by
    cases h with
    | tup hs ha => exact .tup (sqt_mono e hs) (dpall_mono e ds _ ha)
  | .dict _, _, h => by cases h
theorem dpall_mono {K : PySem.W.Frag} {H H' : Hp} (e : Same H H') : ∀ (ds : List PyData) (vs : List V), DpAll K H vs ds → DpAll K H' vs ds
  | [], _, h => by cases h; exact .nil
  | d :: ds, _, h => by
    cases h with
    | cons h1 h2 => exact .cons (dp_mono e d _ h1) (dpall_mono e ds _ h2)
end
theorem dpall_len {K : PySem.W.Frag} {H : Hp} : ∀ {vs : List V} {ds : List PyData}, DpAll K H vs ds → vs.length = ds.length
  | _, _, .nil => rfl
  | _, _, .cons _ h => congrArg Nat.succ (dpall_len h)
theorem dpall_get {K : PySem.W.Frag} {H : Hp} : ∀ {vs : List V} {ds : List PyData} {i : Nat} {d : PyData}, DpAll K H vs ds → ds[i]? = some d → ∃ v, vs[i]? = some v ∧ Dp K H v d
  | _, _, i, _, .nil, e => by simp at e
  | _, _, 0, _, .cons h _, e => by
    have e2 := Option.some.inj e
    subst e2
    exact ⟨_, rfl, h⟩
  | _, _, i + 1, _, .cons _ h, e => dpall_get (i := i) h e
theorem dpall_set {K : PySem.W.Frag} {H : Hp} {v : V} {d : PyData} (hv : Dp K H v d) : ∀ {vs : List V} {ds : List PyData} (i : Nat), DpAll K H vs ds → DpAll K H (vs.set i v) (ds.set i d)
  | _, _, _, .nil => .nil
  | _, _, 0, .cons _ h => .cons hv h
  | _, _, i + 1, .cons h1 h => .cons h1 (dpall_set hv i h)
theorem dpall_app {K : PySem.W.Frag} {H : Hp} : ∀ {vs ws : List V} {ds es : List PyData}, DpAll K H vs ds → DpAll K H ws es → DpAll K H (vs ++ ws) (ds ++ es)
  | _, _, _, _, .nil, h => h
  | _, _, _, _, .cons h1 h2, h => .cons h1 (dpall_app h2 h)
theorem dpall_rep {K : PySem.W.Frag} {H : Hp} {vs : List V} {ds : List PyData} (h : DpAll K H vs ds) : ∀ k : Nat, DpAll K H (List.replicate k vs).flatten (List.replicate k ds).flatten
  | 0 => .nil
  | k + 1 => by
    rw [List.replicate_succ, List.replicate_succ]
    exact dpall_app h (dpall_rep h k)
theorem dcok_mono {Z : Zt} {B B' : Hp} {xs : List (NestedKey × Addr × Value)} {kvs : List (NestedKey × PyData)} (e : Same B B') (h : DcOk Z B xs kvs) : DcOk Z B' xs kvs :=
  ⟨Paired.mapP h.pr fun x y ⟨h1, ⟨h2, h3⟩, v, r, hd⟩ => ⟨h1, ⟨dp_mono e _ _ h2, h3⟩, v, r, dp_mono e _ _ hd⟩, h.nd⟩
theorem vok_mono {Z : Zt} {B B' : Hp} {v : V} (e : Same B B') : ∀ {r : VD}, VOk Z B v r → VOk Z B' v r
  | .d x, h => dp_mono e x v h
  | .ob C fs, h => by
    obtain ⟨a, dx, vs, h1, h2, h3, h4⟩ := h
    exact ⟨a, dx, vs, h1, e _ _ h2, h3, dpall_mono e _ _ h4⟩
  | .dc kvs, h => by
    obtain ⟨a, xs, h1, hs, h2, h3⟩ := h
    exact ⟨a, xs, h1, hs, e _ _ h2, dcok_mono e h3⟩
  | .l2 C fs y, h => by
    obtain ⟨l, a, u, dx, vs, h1, h2, h3, h4, h5, h6⟩ := h
    exact ⟨l, a, u, dx, vs, h1, e.seq h2, e _ _ h3, h4, dpall_mono e _ _ h5, dp_mono e _ _ h6⟩
/-- B: what stands still; H: all; behind it: B', H' -/
structure Gr (M : Option Addr) (B H B' H' : Hp) : Prop where
  bb : Same B B'
  bh : Same B' H'
  hh : SameM M H H'
  nw : ∀ a, B' a ≠ none → B a ≠ none ∨ H a = none
  al : ∀ a, H a ≠ none → H' a ≠ none
theorem Gr.refl {M : Option Addr} {B H : Hp} (h : Same B H) : Gr M B H B H := ⟨Same.refl B, h, fun _ _ _ e => e, fun _ e => .inl e, fun _ e => e⟩
theorem Gr.trans {M : Option Addr} {B H B1 H1 B2 H2 : Hp} (a : Gr M B H B1 H1) (b : Gr M B1 H1 B2 H2) : Gr M B H B2 H2 where
  bb := a.bb.trans b.bb
  bh := b.bh
  hh := a.hh.trans b.hh
  nw := fun x e => by
    rcases b.nw x e with h | h
    · exact a.nw x h
    · refine .inr ?_
      cases q : H x with
      | none => rfl
      | some o => exact absurd h (a.al x (by rw [q]; simp))
  al := fun x e => b.al x (a.al x e)
theorem Gr.lift {M : Option Addr} {B H B' H' : Hp} (g : Gr none B H B' H') : Gr M B H B' H' := ⟨g.bb, g.bh, fun a o _ e => g.hh a o (by simp) e, g.nw, g.al⟩
theorem Gr.same {B H B' H' : Hp} (g : Gr none B H B' H') : Same H H' := fun a o e => g.hh a o (by simp) e
theorem Gr.out {M : Option Addr} {B H B' H' : Hp} (g : Gr M B H B' H') {a : Addr} (h1 : B a = none) (h2 : H a ≠ none) : B' a = none := by
  cases q : B' a with
  | none => rfl
  | some o =>
    rcases g.nw a (by rw [q]; simp) with z | z
    · exact absurd h1 z
    · exact absurd z h2
/-- a new object becomes a part of what stands -/
theorem Gr.new {B H : Hp} (h : Same B H) {p : Addr} {o : HO} (hp : H p = none) : Gr none B H (upd B p o) (upd H p o) := by
  have hb : B p = none := h.free hp
  refine ⟨fun a u e => ?_, fun a u e => ?_, fun a u _ e => ?_, fun a e => ?_, fun a e => ?_⟩
  · rw [upd_ne (ne_of_none e hb)]; exact e
  · by_cases ha : a = p
    · subst ha
      rw [upd_same] at e ⊢
      exact e
    · rw [upd_ne ha] at e ⊢
      exact h a u e
  · rw [upd_ne (ne_of_none e hp)]; exact e
  · by_cases ha : a = p
    · subst ha
      exact .inr hp
    · rw [upd_ne ha] at e
      exact .inl e
  · by_cases ha : a = p
    · subst ha
      exact absurd hp e
    · rw [upd_ne ha]
      exact e

/-! ### the state -/
structure HandAt (K : PySem.W.Frag) (B H : Hp) (h : Addr) : Prop where
  nb : B h = none
  ex : ∃ (c : Addr) (cells : List Int) (pos rest tot : Int), H h = some (.lst [.ref c, .int pos, .int rest, .int tot]) ∧ SqL K B c (cells.map V.int) ∧ (∀ x ∈ cells, 0 ≤ x) ∧ 0 ≤ pos ∧ 0 ≤ rest ∧ 0 ≤ tot ∧ tot < 2147483549
def HandM (Z : Zt) (B H : Hp) : Prop := ∀ h, Z.M = some h → HandAt Z.K B H h
def SlotOk (Z : Zt) (H0 B H : Hp) (x : V) : Slt → Prop
  | .v r => VOk Z B x r
  | .mu ds => ∃ l vs, x = .ref l ∧ H0 l = none ∧ B l = none ∧ Z.M ≠ some l ∧ H l = some (.lst vs) ∧ DpAll Z.K B vs ds
  | .md kvs => ∃ l xs, x = .ref l ∧ H0 l = none ∧ B l = none ∧ Z.M ≠ some l ∧ H l = some (dcO Z.P Z.w l xs) ∧ (l == sysModules) = false ∧ DcOk Z B xs kvs
  | .hd => ∃ h, x = .ref h ∧ Z.M = some h
  | .ad a => x = .ref a
def own : Slt → Bool
  | .mu _ => true
  | .md _ => true
  | _ => false
structure Ok (Z : Zt) (B0 H0 B H : Hp) (σ : L2.St) (Γ : Gm) : Prop where
  gr : Gr Z.M B0 H0 B H
  hand : HandM Z B H
  len : σ.length = Γ.length
  sl : ∀ (i : Nat) (s : Slt), Γ[i]? = some (some s) → ∃ x, σ[i]? = some (some x) ∧ SlotOk Z H0 B H x s
  dis : ∀ (i j : Nat) (s t : Slt) (x : V), Γ[i]? = some (some s) → Γ[j]? = some (some t) → own s = true → own t = true → σ[i]? = some (some x) → σ[j]? = some (some x) → i = j
section
variable {Z : Zt} {B0 H0 B H B' H' : Hp} {σ : L2.St} {Γ : Gm}
theorem Ok.bh (o : Ok Z B0 H0 B H σ Γ) : Same B H := o.gr.bh
theorem HandM.grow (h : HandM Z B H) (g : Gr none B H B' H') : HandM Z B' H' := fun a e => by
  obtain ⟨nb, c, cells, pos, rest, tot, h1, h2, h3⟩ := h a e
  exact ⟨g.out nb (by rw [h1]; simp), c, cells, pos, rest, tot, g.same _ _ h1, g.bb.seq h2, h3⟩
theorem slot_grow {x : V} (g : Gr Z.M B H B' H') : ∀ {s : Slt}, SlotOk Z H0 B H x s → SlotOk Z H0 B' H' x s
  | .v r, h => vok_mono g.bb h
  | .mu ds, h => by
    obtain ⟨l, vs, e, h0, hb, hm, hl, hd⟩ := h
    exact ⟨l, vs, e, h0, g.out hb (by rw [hl]; simp), hm, g.hh _ _ hm hl, dpall_mono g.bb _ _ hd⟩
  | .md kvs, h => by
    obtain ⟨l, xs, e, h0, hb, hm, hl, hs, hd⟩ := h
    exact ⟨l, xs, e, h0, g.out hb (by rw [hl]; simp), hm, g.hh _ _ hm hl, hs, dcok_mono g.bb hd⟩
  | .hd, h => h
  | .ad a, h => h
theorem Ok.growM (o : Ok Z B0 H0 B H σ Γ) (g : Gr Z.M B H B' H') (hd : HandM Z B' H') : Ok Z B0 H0 B' H' σ Γ :=
  ⟨o.gr.trans g, hd, o.len, fun i s e => let ⟨x, h1, h2⟩ := o.sl i s e; ⟨x, h1, slot_grow g h2⟩, o.dis⟩
theorem Ok.grow (o : Ok Z B0 H0 B H σ Γ) (g : Gr none B H B' H') : Ok Z B0 H0 B' H' σ Γ := o.growM g.lift (o.hand.grow g)
/-- slots forgotten -/
theorem Ok.weak {σ' : L2.St} {Γ' : Gm} (o : Ok Z B0 H0 B H σ Γ) (hl : σ'.length = Γ'.length) (h : ∀ (i : Nat) (s : Slt), Γ'[i]? = some (some s) → Γ[i]? = some (some s) ∧ σ'[i]? = σ[i]?) : Ok Z B0 H0 B H σ' Γ' :=
  ⟨o.gr, o.hand, hl, fun i s e => by
    obtain ⟨h1, h2⟩ := h i s e
    rw [h2]
    exact o.sl i s h1, fun i j s t x e1 e2 o1 o2 x1 x2 => by
    obtain ⟨h1, h2⟩ := h i s e1
    obtain ⟨h3, h4⟩ := h j t e2
    rw [h2] at x1
    rw [h4] at x2
    exact o.dis i j s t x h1 h3 o1 o2 x1 x2⟩
theorem set_at {α : Type} {l : List α} {i j : Nat} {x y : α} (h : (l.set i x)[j]? = some y) : (j = i ∧ x = y) ∨ (j ≠ i ∧ l[j]? = some y) := by
  by_cases e : j = i
  · subst e
    by_cases hj : j < l.length
    · rw [List.getElem?_set_self hj] at h
      exact .inl ⟨rfl, Option.some.inj h⟩
    · rw [List.getElem?_eq_none (by rw [List.length_set]; omega)] at h
      cases h
  · rw [List.getElem?_set_ne (Ne.symm e)] at h
    exact .inr ⟨e, h⟩
theorem Ok.lt (o : Ok Z B0 H0 B H σ Γ) {i : Nat} {s : Option Slt} (h : Γ[i]? = some s) : i < σ.length := by
  rw [o.len]
  exact (List.getElem?_eq_some_iff.mp h).1
/-- a slot is set to a thing that stands -/
theorem Ok.set (o : Ok Z B0 H0 B H σ Γ) {i : Nat} {v : V} {r : VD} (hi : i < Γ.length) (h : VOk Z B v r) : Ok Z B0 H0 B H (σ.set i (some v)) (Γ.set i (some (.v r))) := by
  have hs : i < σ.length := by rw [o.len]; exact hi
  refine ⟨o.gr, o.hand, by rw [List.length_set, List.length_set, o.len], fun j s e => ?_, fun j k s t x e1 e2 o1 o2 x1 x2 => ?_⟩
  · rcases set_at e with ⟨rfl, q⟩ | ⟨n, q⟩
    · cases q
      exact ⟨v, by rw [List.getElem?_set_self hs], h⟩
    · rw [List.getElem?_set_ne (Ne.symm n)]
      exact o.sl j s q
  · rcases set_at e1 with ⟨rfl, q1⟩ | ⟨n1, q1⟩
    · cases q1
      cases o1
    · rcases set_at e2 with ⟨rfl, q2⟩ | ⟨n2, q2⟩
      · cases q2
        cases o2
      · rw [List.getElem?_set_ne (Ne.symm n1)] at x1
        rw [List.getElem?_set_ne (Ne.symm n2)] at x2
        exact o.dis j k s t x q1 q2 o1 o2 x1 x2
/-- a slot is set to an own new object at l -/
theorem Ok.setOwn (o : Ok Z B0 H0 B H σ Γ) {i : Nat} {l : Addr} {s : Slt} (hi : i < Γ.length) (h : SlotOk Z H0 B H (.ref l) s) (hn : ∀ (j : Nat) (t : Slt), Γ[j]? = some (some t) → own t = true → σ[j]? ≠ some (some (.ref l))) : Ok Z B0 H0 B H (σ.set i (some (.ref l))) (Γ.set i (some s)) := by
  have hs : i < σ.length := by rw [o.len]; exact hi
  refine ⟨o.gr, o.hand, by rw [List.length_set, List.length_set, o.len], fun j t e => ?_, fun j k t u x e1 e2 o1 o2 x1 x2 => ?_⟩
  · rcases set_at e with ⟨rfl, q⟩ | ⟨n, q⟩
    · cases q
      exact ⟨.ref l, by rw [List.getElem?_set_self hs], h⟩
    · rw [List.getElem?_set_ne (Ne.symm n)]
      exact o.sl j t q
  · rcases set_at e1 with ⟨r1, q1⟩ | ⟨n1, q1⟩
    · rcases set_at e2 with ⟨r2, q2⟩ | ⟨n2, q2⟩
      · rw [r1, r2]
      · rw [r1, List.getElem?_set_self hs] at x1
        have e3 := Option.some.inj (Option.some.inj x1)
        rw [List.getElem?_set_ne (Ne.symm n2), ← e3] at x2
        exact absurd x2 (hn k u q2 o2)
    · rcases set_at e2 with ⟨r2, q2⟩ | ⟨n2, q2⟩
      · rw [r2, List.getElem?_set_self hs] at x2
        have e3 := Option.some.inj (Option.some.inj x2)
        rw [List.getElem?_set_ne (Ne.symm n1), ← e3] at x1
        exact absurd x1 (hn j t q1 o1)
      · rw [List.getElem?_set_ne (Ne.symm n1)] at x1
        rw [List.getElem?_set_ne (Ne.symm n2)] at x2
        exact o.dis j k t u x q1 q2 o1 o2 x1 x2
/-- own objects are known -/
theorem Ok.ownKnown (o : Ok Z B0 H0 B H σ Γ) {j : Nat} {t : Slt} {l : Addr} (e : Γ[j]? = some (some t)) (ho : own t = true) (hx : σ[j]? = some (some (.ref l))) : H l ≠ none ∧ B l = none ∧ H0 l = none ∧ Z.M ≠ some l := by
  obtain ⟨x, h1, h2⟩ := o.sl j t e
  rw [hx] at h1
  have e1 := Option.some.inj (Option.some.inj h1)
  subst e1
  cases t with
  | mu ds =>
    obtain ⟨l', vs, e, h0, hb, hm, hl, hd⟩ := h2
    cases e
    exact ⟨by rw [hl]; simp, hb, h0, hm⟩
  | md kvs =>
    obtain ⟨l', xs, e, h0, hb, hm, hl, _, hd⟩ := h2
    cases e
    exact ⟨by rw [hl]; simp, hb, h0, hm⟩
  | v r => cases ho
  | hd => cases ho
  | ad a => cases ho
/-- an own object is written -/
theorem Ok.write (o : Ok Z B0 H0 B H σ Γ) {i : Nat} {l : Addr} {s s' : Slt} {u : HO} (e : Γ[i]? = some (some s)) (ho : own s = true) (hx : σ[i]? = some (some (.ref l))) (ho' : own s' = true) (h : SlotOk Z H0 B (upd H l u) (.ref l) s') :
    Ok Z B0 H0 B (upd H l u) σ (Γ.set i (some s')) := by
  obtain ⟨hl, hb, h0, hm⟩ := o.ownKnown e ho hx
  have hi := o.lt e
  have hi' : i < Γ.length := by rw [← o.len]; exact hi
  have up : ∀ {a : Addr} {w : HO}, a ≠ l → H a = some w → upd H l u a = some w := fun {a w} n z => by rw [upd_ne n]; exact z
  refine ⟨⟨o.gr.bb, fun a w z => up (ne_of_none z hb) (o.gr.bh a w z), fun a w n z => up (ne_of_none z h0) (o.gr.hh a w n z), o.gr.nw, fun a z => ?_⟩, fun a z => ?_, by rw [List.length_set, o.len], fun j t q => ?_, fun j k t w x e1 e2 o1 o2 x1 x2 => ?_⟩
  · by_cases ha : a = l
    · subst ha
      rw [upd_same]
      simp
    · rw [upd_ne ha]
      exact o.gr.al a z
  · obtain ⟨nb, c, cells, pos, rest, tot, h1, h2⟩ := o.hand a z
    refine ⟨nb, c, cells, pos, rest, tot, up (fun q => hm (by rw [← q]; exact z)) h1, h2⟩
  · rcases set_at q with ⟨rfl, p⟩ | ⟨n, p⟩
    · cases p
      exact ⟨.ref l, hx, h⟩
    · obtain ⟨x, h1, h2⟩ := o.sl j t p
      refine ⟨x, h1, ?_⟩
      have nl : own t = true → x ≠ .ref l := fun ot z => n (o.dis j i t s (.ref l) p e ot ho (by rw [h1, z]) hx)
      cases t with
      | v r => exact h2
      | hd => exact h2
      | ad a => exact h2
      | mu ds =>
        obtain ⟨l', vs, e', h0', hb', hm', hl', hd'⟩ := h2
        exact ⟨l', vs, e', h0', hb', hm', up (fun z => nl rfl (by rw [e', z])) hl', hd'⟩
      | md kvs =>
        obtain ⟨l', xs, e', h0', hb', hm', hl', hs', hd'⟩ := h2
        exact ⟨l', xs, e', h0', hb', hm', up (fun z => nl rfl (by rw [e', z])) hl', hs', hd'⟩
  · rcases set_at e1 with ⟨rfl, q1⟩ | ⟨n1, q1⟩
    · rcases set_at e2 with ⟨rfl, q2⟩ | ⟨n2, q2⟩
      · rfl
      · exact o.dis j k s w x e q2 ho o2 x1 x2
    · rcases set_at e2 with ⟨rfl, q2⟩ | ⟨n2, q2⟩
      · exact o.dis j k t s x q1 e o1 ho x1 x2
      · exact o.dis j k t w x q1 q2 o1 o2 x1 x2
/-- an own list becomes a list that stands -/
theorem Ok.freeze (o : Ok Z B0 H0 B H σ Γ) {i : Nat} {ds : List PyData} (e : Γ[i]? = some (some (.mu ds))) : ∃ (l : Addr) (vs : List V), σ[i]? = some (some (.ref l)) ∧ B l = none ∧ H l = some (.lst vs) ∧ DpAll Z.K B vs ds ∧ Ok Z B0 H0 (upd B l (.lst vs)) H σ (Γ.set i (some (.v (.d (.list ds))))) := by
  obtain ⟨x, hx, l, vs, rfl, h0, hb, hm, hl, hd⟩ := o.sl i _ e
  have up : Same B (upd B l (.lst vs)) := fun a w z => by rw [upd_ne (ne_of_none z hb)]; exact z
  have hi := o.lt e
  refine ⟨l, vs, hx, hb, hl, hd, ⟨⟨o.gr.bb.trans up, fun a w z => ?_, o.gr.hh, fun a z => ?_, o.gr.al⟩, fun a z => ?_, by rw [List.length_set, o.len], fun j t q => ?_, fun j k t w x e1 e2 o1 o2 x1 x2 => ?_⟩⟩
  · by_cases ha : a = l
    · subst ha
      rw [upd_same] at z
      rw [← z]
      exact hl
    · rw [upd_ne ha] at z
      exact o.gr.bh a w z
  · by_cases ha : a = l
    · subst ha
      exact .inr h0
    · rw [upd_ne ha] at z
      exact o.gr.nw a z
  · obtain ⟨nb, c, cells, pos, rest, tot, h1, h2, h3⟩ := o.hand a z
    exact ⟨by rw [upd_ne (fun q => hm (by rw [← q]; exact z))]; exact nb, c, cells, pos, rest, tot, h1, up.seq h2, h3⟩
  · rcases set_at q with ⟨rfl, p⟩ | ⟨n, p⟩
    · cases p
      exact ⟨.ref l, hx, .lst (.inl (.inl upd_same)) (dpall_mono up _ _ hd)⟩
    · obtain ⟨x, h1, h2⟩ := o.sl j t p
      refine ⟨x, h1, ?_⟩
      have nl : own t = true → x ≠ .ref l := fun ot z => n (o.dis j i t _ (.ref l) p e ot rfl (by rw [h1, z]) hx)
      cases t with
      | v r => exact vok_mono up h2
      | hd => exact h2
      | ad a => exact h2
      | mu ds =>
        obtain ⟨l', vs, e', h0', hb', hm', hl', hd'⟩ := h2
        exact ⟨l', vs, e', h0', by rw [upd_ne (fun z => nl rfl (by rw [e', z]))]; exact hb', hm', hl', dpall_mono up _ _ hd'⟩
      | md kvs =>
        obtain ⟨l', xs, e', h0', hb', hm', hl', hs', hd'⟩ := h2
        exact ⟨l', xs, e', h0', by rw [upd_ne (fun z => nl rfl (by rw [e', z]))]; exact hb', hm', hl', hs', dcok_mono up hd'⟩
  · rcases set_at e1 with ⟨rfl, q1⟩ | ⟨n1, q1⟩
    · cases q1
      cases o1
    · rcases set_at e2 with ⟨rfl, q2⟩ | ⟨n2, q2⟩
      · cases q2
        cases o2
      · exact o.dis j k t w x q1 q2 o1 o2 x1 x2
/-- what stood before stands, whatever stands besides -/
theorem Ok.shrink {B1 : Hp} (o : Ok Z B0 H0 B H σ Γ) (g : Gr Z.M B H B1 H') (hd : HandM Z B1 H') : Ok Z B0 H0 B1 H' σ Γ := o.growM g hd
end
end K27
set_option maxHeartbeats 4000000
/-! What an expression does to the data. -/
namespace K27
open PySem PySem.Spec PyProof.Rows L2

abbrev zx (X : Cx) (M : Option Addr) : Zt := ⟨X.prog, X.w, X.K, M⟩
abbrev VsOk (Z : Zt) (B : Hp) : List V → List VD → Prop := Paired (VOk Z B)
def tD (Z : Zt) (Γ : Gm) (R : VD → Prop) : TE := fun σ H Q => ∃ B0 H0 B, Ok Z B0 H0 B H σ Γ ∧ ∀ v r B' H', R r → Gr Z.M B H B' H' → Ok Z B0 H0 B' H' σ Γ → VOk Z B' v r → Q v H'
def tDT (Z : Zt) (Γ : Gm) (R : Bool → Prop) : TT := fun σ H Q => ∃ B0 H0 B, Ok Z B0 H0 B H σ Γ ∧ ∀ b B' H', R b → Gr Z.M B H B' H' → Ok Z B0 H0 B' H' σ Γ → Q b H'
def tDA (Z : Zt) (Γ : Gm) (R : List VD → Prop) : TA := fun σ H Q => ∃ B0 H0 B, Ok Z B0 H0 B H σ Γ ∧ ∀ vs rs B' H', R rs → Gr Z.M B H B' H' → Ok Z B0 H0 B' H' σ Γ → VsOk Z B' vs rs → Q vs H'
def tDP (Z : Zt) (Γ : Gm) (R : List PyData → Prop) : TA := fun σ H Q => ∃ B0 H0 B, Ok Z B0 H0 B H σ Γ ∧ ∀ vs rs B' H', R rs → Gr Z.M B H B' H' → Ok Z B0 H0 B' H' σ Γ → DpAll Z.K B' vs rs → Q vs H'
/-- a new list of one's own -/
def tN (Z : Zt) (Γ : Gm) (R : List PyData → Prop) : TE := fun σ H Q => ∃ B0 H0 B, Ok Z B0 H0 B H σ Γ ∧ ∀ l vs ds B' H', R ds → Gr Z.M B H B' H' → Ok Z B0 H0 B' H' σ Γ → H l = none → B' l = none → Z.M ≠ some l → H' l = some (.lst vs) → DpAll Z.K B' vs ds → Q (.ref l) H'
theorem vsok_mono {Z : Zt} {B B' : Hp} (e : Same B B') : ∀ {vs : List V} {rs : List VD}, VsOk Z B vs rs → VsOk Z B' vs rs
  | _, _, .nil => .nil
  | _, _, .cons h t => .cons (vok_mono e h) (vsok_mono e t)
section
variable {X : Cx} {e : Expr} {t t' : TE}
theorem pe_imp (p : PE X e t) (h : ∀ σ H Q, t' σ H Q → t σ H Q) : PE X e t' := ⟨fun pins s σ H Q I q => p.run pins s σ H Q I (h σ H Q q)⟩
theorem pt_imp {t t' : TT} (p : PT X e t) (h : ∀ σ H Q, t' σ H Q → t σ H Q) : PT X e t' := ⟨fun pins s σ H Q I q => p.run pins s σ H Q I (h σ H Q q)⟩
theorem pw_imp {t t' : TT} (p : PW X e t) (h : ∀ σ H Q, t' σ H Q → t σ H Q) : PW X e t' := ⟨fun wh pins s σ H Q I q => p.run wh pins s σ H Q I (h σ H Q q)⟩
theorem pa_imp {es : List Expr} {t t' : TA} (p : PA X es t) (h : ∀ σ H Q, t' σ H Q → t σ H Q) : PA X es t' := ⟨fun pos pins s σ H Q I q => p.run pos pins s σ H Q I (h σ H Q q)⟩
theorem ps_imp {st : Stmt} {t t' : TS} (p : PS X st t) (h : ∀ D σ H, t' D σ H → t D σ H) : PS X st t' := ⟨fun pins s σ H D I q => p.run pins s σ H D I (h D σ H q)⟩
theorem pss_imp {st : List Stmt} {t t' : TS} (p : PSs X st t) (h : ∀ D σ H, t' D σ H → t D σ H) : PSs X st t' := ⟨fun pins s σ H D I q => p.run pins s σ H D I (h D σ H q)⟩
end
section
variable {Z : Zt} {B H : Hp} {v u : V}
theorem dpi {K : PySem.W.Frag} {i : Int} (h : Dp K B v (.int i)) : v = .int i := by cases h; rfl
theorem dpb {K : PySem.W.Frag} {b : Bool} (h : Dp K B v (.bool b)) : v = .bl b := by cases h; rfl
theorem dpn {K : PySem.W.Frag} (h : Dp K B v .none) : v = .non := by cases h; rfl
theorem dps {K : PySem.W.Frag} {x : Str} (h : Dp K B v (.str x)) : v = .str x := by cases h; rfl
theorem dpt {K : PySem.W.Frag} {ds : List PyData} (h : Dp K B v (.tuple ds)) : ∃ a vs, v = .ref a ∧ SqT K B a vs ∧ DpAll K B vs ds := by
  cases h with
  | tup h1 h2 => exact ⟨_, _, rfl, h1, h2⟩
theorem dpl {K : PySem.W.Frag} {ds : List PyData} (h : Dp K B v (.list ds)) : ∃ a vs, v = .ref a ∧ SqL K B a vs ∧ DpAll K B vs ds := by
  cases h with
  | lst h1 h2 => exact ⟨_, _, rfl, h1, h2⟩
end
section
variable {X : Cx} {M : Option Addr} {Γ : Gm} {a b c e : Expr} {es rest : List Expr} {pos : Pos} {x : Str}
/-! ### names, constants -/
theorem x_mono {R R' : VD → Prop} (h : PE X e (tD (zx X M) Γ R)) (hr : ∀ r, R r → R' r) : PE X e (tD (zx X M) Γ R') :=
  pe_imp h fun σ H Q ⟨B0, H0, B, o, k⟩ => ⟨B0, H0, B, o, fun v r B' H' q g o' hv => k v r B' H' (hr r q) g o' hv⟩
theorem x_eq {r r' : VD} (h : PE X e (tD (zx X M) Γ (fun y => y = r))) (hr : r = r') : PE X e (tD (zx X M) Γ (fun y => y = r')) := by
  rw [← hr]
  exact h
theorem x_var (i : Nat) {r : VD} (hG : Γ[i]? = some (some (.v r)) := by rfl) (hN : X.N[i]? = some x := by rfl) (hv : Vis X.env.scope x := by first | exact Or.inl rfl | exact Or.inr (Or.inl rfl) | exact Or.inr (Or.inr rfl)) (hd : (x == ("__debug__" : Str)) = false := by decide)
    (hcd : (x == ("__classdict__" : Str)) = false := by decide) : PE X (.Name x pos) (tD (zx X M) Γ (fun y => y = r)) :=
  pe_imp (pv i hN hv hd hcd) fun σ H Q ⟨B0, H0, B, o, k⟩ => by
    obtain ⟨v, e, hv⟩ := o.sl i _ hG
    exact ⟨v, e, k v r B H rfl (Gr.refl o.bh) o hv⟩
theorem x_c {v : V} {r : VD} (p : PE X e (tC v)) (h : ∀ B, VOk (zx X M) B v r) : PE X e (tD (zx X M) Γ (fun y => y = r)) :=
  pe_imp p fun σ H Q ⟨B0, H0, B, o, k⟩ => k v r B H rfl (Gr.refl o.bh) o (h B)
theorem x_int {i : Int} {j : Nat} : PE X (.Constant (.int i) j pos) (tD (zx X M) Γ (fun y => y = .d (.int i))) := x_c pe_int fun _ => Dp.int i
theorem x_bl {i : Bool} {j : Nat} : PE X (.Constant (.bool i) j pos) (tD (zx X M) Γ (fun y => y = .d (.bool i))) := x_c pe_bl fun _ => Dp.bl i
theorem x_non {j : Nat} : PE X (.Constant .none j pos) (tD (zx X M) Γ (fun y => y = .d .none)) := x_c pe_non fun _ => Dp.non
theorem x_str {s : Str} {j : Nat} : PE X (.Constant (.str s) j pos) (tD (zx X M) Γ (fun y => y = .d (.str s))) := x_c pe_str fun _ => Dp.str s

/-! ### operators -/
def RD (Z : Zt) (r : R2) (x y : VD) (R : VD → Prop) : Prop := ∀ B H u v Q, Same B H → VOk Z B u x → VOk Z B v y → (∀ w z B' H', R z → Gr none B H B' H' → VOk Z B' w z → Q w H') → r u v H Q
def RU (Z : Zt) (r : V → Hp → VK → Prop) (x : VD) (R : VD → Prop) : Prop := ∀ B H u Q, Same B H → VOk Z B u x → (∀ w z B' H', R z → Gr none B H B' H' → VOk Z B' w z → Q w H') → r u H Q
theorem op_read {r : R2} {Ra Rb Rz : VD → Prop} (h : ∀ x y, Ra x → Rb y → RD (zx X M) r x y Rz) : ∀ σ H Q, tD (zx X M) Γ Rz σ H Q → tOp r (tD (zx X M) Γ Ra) (tD (zx X M) Γ Rb) σ H Q := fun σ H Q ⟨B0, H0, B, o, k⟩ =>
  ⟨B0, H0, B, o, fun u x B1 H1 hx g1 o1 hu => ⟨B0, H0, B1, o1, fun v y B2 H2 hy g2 o2 hv => h x y hx hy B2 H2 u v Q o2.bh (vok_mono g2.bb hu) hv fun w z B3 H3 hz g3 hw => k w z B3 H3 hz ((g1.trans g2).trans g3.lift) (o2.grow g3) hw⟩⟩
theorem x_op {op : Operator} {r : R2} {Ra Rb Rz : VD → Prop} (ho : OpR X (binaryOp op) r) (ha : PE X a (tD (zx X M) Γ Ra)) (hb : PE X b (tD (zx X M) Γ Rb)) (h : ∀ x y, Ra x → Rb y → RD (zx X M) r x y Rz) : PE X (.BinOp a op b pos) (tD (zx X M) Γ Rz) :=
  pe_imp (pe_op ho ha hb) (op_read h)
theorem x_cmp {op : CmpOp} {r : R2} {Ra Rb Rz : VD → Prop} (ho : OpR X (compareOp op) r) (ha : PE X a (tD (zx X M) Γ Ra)) (hb : PE X b (tD (zx X M) Γ Rb)) (hm : behindInMarks op b = false) (h : ∀ x y, Ra x → Rb y → RD (zx X M) r x y Rz) : PE X (.Compare a [op] [b] pos) (tD (zx X M) Γ Rz) :=
  pe_imp (pe_cmpR ho ha hb hm) (op_read h)
/-- a test by its value -/
theorem test_read {te : TE} {R : Bool → Prop} (h : ∀ σ H Q, tD (zx X M) Γ (fun y => ∃ b, R b ∧ y = .d (.bool b)) σ H Q → te σ H Q) : ∀ σ H Q, tDT (zx X M) Γ R σ H Q → te σ H (fun x H' => ∃ k, x = .bl k ∧ Q k H') := fun σ H Q ⟨B0, H0, B, o, k⟩ => by
  refine h σ H _ ⟨B0, H0, B, o, fun v r B' H' hr g o' hv => ?_⟩
  obtain ⟨b, hb, e⟩ := hr
  subst e
  exact ⟨b, dpb hv, k b B' H' hb g o'⟩
theorem t_cmp {op : CmpOp} {r : R2} {Ra Rb : VD → Prop} {R : Bool → Prop} (ho : OpR X (compareOp op) r) (ha : PE X a (tD (zx X M) Γ Ra)) (hb : PE X b (tD (zx X M) Γ Rb)) (hm : behindInMarks op b = false) (h : ∀ x y, Ra x → Rb y → RD (zx X M) r x y (fun z => ∃ k, R k ∧ z = .d (.bool k))) : PT X (.Compare a [op] [b] pos) (tDT (zx X M) Γ R) :=
  pt_imp (pt_cmpR ho ha hb hm) (test_read (op_read h))
theorem t_val {R : Bool → Prop} (h : PE X e (tD (zx X M) Γ (fun y => ∃ b, R b ∧ y = .d (.bool b)))) (he : ∀ whole, isTrue e X.env whole = (do let v ← whole; standAt e.pos; holding [v] (truthy v)) := by intro _; rfl) : PT X e (tDT (zx X M) Γ R) :=
  pt_imp (pt_val h he) (test_read fun _ _ _ q => q)
theorem t_v {b : Bool} (h : PE X e (tD (zx X M) Γ (fun y => y = .d (.bool b)))) (he : ∀ whole, isTrue e X.env whole = (do let v ← whole; standAt e.pos; holding [v] (truthy v)) := by intro _; rfl) : PT X e (tDT (zx X M) Γ (fun k => k = b)) :=
  t_val (x_mono h fun r q => ⟨b, rfl, q⟩) he

theorem rd_I0 {Z : Zt} {g : Int → Int → V} {i j : Int} {y : PyData} (h : ∀ B, Dp Z.K B (g i j) y) : RD Z (rI0 g) (.d (.int i)) (.d (.int j)) (fun z => z = .d y) := fun B H u v Q hs hu hv k =>
  ⟨i, j, dpi hu, dpi hv, k _ _ B H rfl (Gr.refl hs) (h B)⟩
theorem rd_I {Z : Zt} {C : Int → Int → Prop} {g : Int → Int → V} {i j : Int} {y : PyData} (hc : C i j) (h : ∀ B, Dp Z.K B (g i j) y) : RD Z (rI C g) (.d (.int i)) (.d (.int j)) (fun z => z = .d y) := fun B H u v Q hs hu hv k =>
  ⟨i, j, dpi hu, dpi hv, hc, k _ _ B H rfl (Gr.refl hs) (h B)⟩
theorem det2 {Z : Zt} {r : R2} {x y : VD} {R : VD → Prop} (h : RD Z r x y R) : ∀ x' y', x' = x → y' = y → RD Z r x' y' R := fun _ _ e1 e2 => by rw [e1, e2]; exact h
variable {i j : Int} (ha : PE X a (tD (zx X M) Γ (fun y => y = .d (.int i)))) (hb : PE X b (tD (zx X M) Γ (fun y => y = .d (.int j))))
include ha hb
theorem x_add : PE X (.BinOp a .Add b pos) (tD (zx X M) Γ (fun y => y = .d (.int (i + j)))) := x_op op_add ha hb (det2 (rd_I0 fun _ => Dp.int _))
theorem x_sub : PE X (.BinOp a .Sub b pos) (tD (zx X M) Γ (fun y => y = .d (.int (i - j)))) := x_op op_sub ha hb (det2 (rd_I0 fun _ => Dp.int _))
theorem x_mul (hc : CMul i j) : PE X (.BinOp a .Mult b pos) (tD (zx X M) Γ (fun y => y = .d (.int (i * j)))) := x_op op_mul ha hb (det2 (rd_I hc fun _ => Dp.int _))
theorem x_fdiv (hc : 0 < j ∧ j < 1073741824) : PE X (.BinOp a .FloorDiv b pos) (tD (zx X M) Γ (fun y => y = .d (.int (i / j)))) := x_op op_fdiv ha hb (det2 (rd_I hc fun _ => Dp.int _))
theorem x_mod (hc : 0 < j) : PE X (.BinOp a .Mod b pos) (tD (zx X M) Γ (fun y => y = .d (.int (i % j)))) := x_op op_mod ha hb (det2 (rd_I hc fun _ => Dp.int _))
theorem x_pow (hc : 0 ≤ j ∧ j ≤ 1000000 ∧ i.natAbs < 2 ^ 64) : PE X (.BinOp a .Pow b pos) (tD (zx X M) Γ (fun y => y = .d (.int (i ^ j.toNat)))) := x_op op_pow ha hb (det2 (rd_I hc fun _ => Dp.int _))
theorem x_shr (hc : 0 ≤ j) : PE X (.BinOp a .RShift b pos) (tD (zx X M) Γ (fun y => y = .d (.int (i / 2 ^ j.toNat)))) := x_op op_shr ha hb (det2 (rd_I hc fun _ => Dp.int _))
theorem x_lt : PE X (.Compare a [.Lt] [b] pos) (tD (zx X M) Γ (fun y => y = .d (.bool (decide (i < j))))) := x_cmp op_lt ha hb (nomark _) (det2 (rd_I0 fun _ => Dp.bl _))
theorem x_le : PE X (.Compare a [.LtE] [b] pos) (tD (zx X M) Γ (fun y => y = .d (.bool (decide (i ≤ j))))) := x_cmp op_le ha hb (nomark _) (det2 (rd_I0 fun _ => Dp.bl _))
theorem x_gt : PE X (.Compare a [.Gt] [b] pos) (tD (zx X M) Γ (fun y => y = .d (.bool (decide (j < i))))) := x_cmp op_gt ha hb (nomark _) (det2 (rd_I0 fun _ => Dp.bl _))
theorem x_ge : PE X (.Compare a [.GtE] [b] pos) (tD (zx X M) Γ (fun y => y = .d (.bool (decide (j ≤ i))))) := x_cmp op_ge ha hb (nomark _) (det2 (rd_I0 fun _ => Dp.bl _))
theorem rd_eqI {Z : Zt} : RD Z rEq (.d (.int i)) (.d (.int j)) (fun z => z = .d (.bool (decide (i = j)))) := fun B H u v Q hs hu hv k => by
  rw [dpi hu, dpi hv]
  refine ⟨rfl, ?_⟩
  have e : decide (V.int i = V.int j) = decide (i = j) := by rw [dec_int, Bool.beq_eq_decide_eq]
  rw [e]
  exact k _ _ B H rfl (Gr.refl hs) (Dp.bl _)
theorem rd_neI {Z : Zt} : RD Z rNe (.d (.int i)) (.d (.int j)) (fun z => z = .d (.bool (!decide (i = j)))) := fun B H u v Q hs hu hv k => by
  rw [dpi hu, dpi hv]
  refine ⟨rfl, ?_⟩
  have e : decide (V.int i = V.int j) = decide (i = j) := by rw [dec_int, Bool.beq_eq_decide_eq]
  rw [e]
  exact k _ _ B H rfl (Gr.refl hs) (Dp.bl _)
theorem x_eqI : PE X (.Compare a [.Eq] [b] pos) (tD (zx X M) Γ (fun y => y = .d (.bool (decide (i = j))))) := x_cmp op_eq ha hb (nomark _) (det2 (rd_eqI ha hb))
theorem x_neI : PE X (.Compare a [.NotEq] [b] pos) (tD (zx X M) Γ (fun y => y = .d (.bool (!decide (i = j))))) := x_cmp op_ne ha hb (nomark _) (det2 (rd_neI ha hb))
theorem t_lt : PT X (.Compare a [.Lt] [b] pos) (tDT (zx X M) Γ (fun k => k = decide (i < j))) := t_cmp op_lt ha hb (nomark _) (det2 fun B H u v Q hs hu hv k => rd_I0 (fun _ => Dp.bl _) B H u v Q hs hu hv fun w z B' H' hz g hw => k w z B' H' ⟨_, rfl, hz⟩ g hw)
theorem t_le : PT X (.Compare a [.LtE] [b] pos) (tDT (zx X M) Γ (fun k => k = decide (i ≤ j))) := t_cmp op_le ha hb (nomark _) (det2 fun B H u v Q hs hu hv k => rd_I0 (fun _ => Dp.bl _) B H u v Q hs hu hv fun w z B' H' hz g hw => k w z B' H' ⟨_, rfl, hz⟩ g hw)
theorem t_gt : PT X (.Compare a [.Gt] [b] pos) (tDT (zx X M) Γ (fun k => k = decide (j < i))) := t_cmp op_gt ha hb (nomark _) (det2 fun B H u v Q hs hu hv k => rd_I0 (fun _ => Dp.bl _) B H u v Q hs hu hv fun w z B' H' hz g hw => k w z B' H' ⟨_, rfl, hz⟩ g hw)
theorem t_ge : PT X (.Compare a [.GtE] [b] pos) (tDT (zx X M) Γ (fun k => k = decide (j ≤ i))) := t_cmp op_ge ha hb (nomark _) (det2 fun B H u v Q hs hu hv k => rd_I0 (fun _ => Dp.bl _) B H u v Q hs hu hv fun w z B' H' hz g hw => k w z B' H' ⟨_, rfl, hz⟩ g hw)
theorem t_eqI : PT X (.Compare a [.Eq] [b] pos) (tDT (zx X M) Γ (fun k => k = decide (i = j))) := t_cmp op_eq ha hb (nomark _) (det2 fun B H u v Q hs hu hv k => rd_eqI ha hb B H u v Q hs hu hv fun w z B' H' hz g hw => k w z B' H' ⟨_, rfl, hz⟩ g hw)
theorem t_neI : PT X (.Compare a [.NotEq] [b] pos) (tDT (zx X M) Γ (fun k => k = !decide (i = j))) := t_cmp op_ne ha hb (nomark _) (det2 fun B H u v Q hs hu hv k => rd_neI ha hb B H u v Q hs hu hv fun w z B' H' hz g hw => k w z B' H' ⟨_, rfl, hz⟩ g hw)
end
section
variable {X : Cx} {M : Option Addr} {Γ : Gm} {a b c e : Expr} {es rest : List Expr} {pos : Pos} {x : Str}
theorem un_read {r : V → Hp → VK → Prop} {Ra Rz : VD → Prop} (h : ∀ x, Ra x → RU (zx X M) r x Rz) : ∀ σ H Q, tD (zx X M) Γ Rz σ H Q → tUn r (tD (zx X M) Γ Ra) σ H Q := fun σ H Q ⟨B0, H0, B, o, k⟩ =>
  ⟨B0, H0, B, o, fun u x B1 H1 hx g1 o1 hu => h x hx B1 H1 u Q o1.bh hu fun w z B3 H3 hz g3 hw => k w z B3 H3 hz (g1.trans g3.lift) (o1.grow g3) hw⟩
theorem x_neg {i : Int} (ha : PE X a (tD (zx X M) Γ (fun y => y = .d (.int i)))) : PE X (.UnaryOp .USub a pos) (tD (zx X M) Γ (fun y => y = .d (.int (-i)))) :=
  pe_imp (pe_un un_neg ha) (un_read fun x hx B H u Q hs hu k => by
    subst hx
    exact ⟨i, dpi hu, k _ _ B H rfl (Gr.refl hs) (Dp.int _)⟩)
/-! ### equality of data -/
theorem rd_eqD {Z : Zt} {x y : PyData} (h1 : SeqAt.shaped x = true) (h2 : SeqAt.shaped y = true) : RD Z (rEqD Z.K) (.d x) (.d y) (fun z => z = .d (.bool (PyData.eqv x y))) := fun B H u v Q hs hu hv k =>
  ⟨x, y, dp_mono hs _ _ hu, dp_mono hs _ _ hv, h1, h2, k _ _ B H rfl (Gr.refl hs) (Dp.bl _)⟩
theorem rd_neD {Z : Zt} {x y : PyData} (h1 : SeqAt.shaped x = true) (h2 : SeqAt.shaped y = true) : RD Z (rNeD Z.K) (.d x) (.d y) (fun z => z = .d (.bool (!PyData.eqv x y))) := fun B H u v Q hs hu hv k =>
  ⟨x, y, dp_mono hs _ _ hu, dp_mono hs _ _ hv, h1, h2, k _ _ B H rfl (Gr.refl hs) (Dp.bl _)⟩
section
variable {y z : PyData} {k : Nat} (hr : Room k X.A) (ha : PE X a (tD (zx X M) Γ (fun r => r = .d y))) (hb : PE X b (tD (zx X M) Γ (fun r => r = .d z))) (h1 : SeqAt.shaped y = true) (h2 : SeqAt.shaped z = true)
include hr ha hb h1 h2
theorem x_eqD : PE X (.Compare a [.Eq] [b] pos) (tD (zx X M) Γ (fun r => r = .d (.bool (PyData.eqv y z)))) := x_cmp (op_eqD hr.units) ha hb (nomark _) (det2 (rd_eqD h1 h2))
theorem x_neD : PE X (.Compare a [.NotEq] [b] pos) (tD (zx X M) Γ (fun r => r = .d (.bool (!PyData.eqv y z)))) := x_cmp (op_neD hr.units) ha hb (nomark _) (det2 (rd_neD h1 h2))
theorem t_eqD : PT X (.Compare a [.Eq] [b] pos) (tDT (zx X M) Γ (fun r => r = PyData.eqv y z)) := t_cmp (op_eqD hr.units) ha hb (nomark _) (det2 fun B H u v Q hs hu hv k => rd_eqD h1 h2 B H u v Q hs hu hv fun w z B' H' hz g hw => k w z B' H' ⟨_, rfl, hz⟩ g hw)
theorem t_neD : PT X (.Compare a [.NotEq] [b] pos) (tDT (zx X M) Γ (fun r => r = !PyData.eqv y z)) := t_cmp (op_neD hr.units) ha hb (nomark _) (det2 fun B H u v Q hs hu hv k => rd_neD h1 h2 B H u v Q hs hu hv fun w z B' H' hz g hw => k w z B' H' ⟨_, rfl, hz⟩ g hw)
end
/-! ### None -/
def isN : VD → Bool
  | .d .none => true
  | _ => false
theorem isN_ok {Z : Zt} {B : Hp} {v : V} : ∀ {r : VD}, VOk Z B v r → decide (v = .non) = isN r
  | .d x, h => by
    have h : Dp Z.K B v x := h
    cases h <;> rfl
  | .ob C fs, h => by
    obtain ⟨a, dx, vs, rfl, _⟩ := h
    rfl
  | .dc kvs, h => by
    obtain ⟨a, xs, rfl, _⟩ := h
    rfl
  | .l2 C fs y, h => by
    obtain ⟨l, a, u, dx, vs, rfl, _⟩ := h
    rfl
theorem x_isN {r : VD} {j : Nat} {p2 : Pos} (ha : PE X a (tD (zx X M) Γ (fun y => y = r))) : PE X (.Compare a [.Is] [.Constant .none j p2] pos) (tD (zx X M) Γ (fun y => y = .d (.bool (isN r)))) :=
  x_cmp op_isN ha x_non (nomark _) (det2 fun B H u v Q hs hu hv k => ⟨dpn hv, by rw [isN_ok hu]; exact k _ _ B H rfl (Gr.refl hs) (Dp.bl _)⟩)
theorem t_isN {r : VD} {j : Nat} {p2 : Pos} (ha : PE X a (tD (zx X M) Γ (fun y => y = r))) : PT X (.Compare a [.Is] [.Constant .none j p2] pos) (tDT (zx X M) Γ (fun y => y = isN r)) :=
  t_cmp op_isN ha x_non (nomark _) (det2 fun B H u v Q hs hu hv k => ⟨dpn hv, by rw [isN_ok hu]; exact k _ _ B H ⟨_, rfl, rfl⟩ (Gr.refl hs) (Dp.bl _)⟩)
/-! ### and, or, not, if -/
theorem tdt_mono {R R' : Bool → Prop} (h : PT X e (tDT (zx X M) Γ R)) (hr : ∀ b, R b → R' b) : PT X e (tDT (zx X M) Γ R') :=
  pt_imp h fun σ H Q ⟨B0, H0, B, o, k⟩ => ⟨B0, H0, B, o, fun b B' H' q g o' => k b B' H' (hr b q) g o'⟩
theorem w_and1 {R : Bool → Prop} (ha : PT X a (tDT (zx X M) Γ R)) : PW X (.BoolOp .And [a] pos) (tDT (zx X M) Γ R) := pw_and1 ha
theorem w_or1 {R : Bool → Prop} (ha : PT X a (tDT (zx X M) Γ R)) : PW X (.BoolOp .Or [a] pos) (tDT (zx X M) Γ R) := pw_or1 ha
theorem pw_none {e : Expr} : PW X e (fun _ _ _ => False) := ⟨fun _ _ _ _ _ _ _ h => h.elim⟩
theorem pe_none {e : Expr} : PE X e (fun _ _ _ => False) := ⟨fun _ _ _ _ _ _ h => h.elim⟩
theorem pt_none {e : Expr} : PT X e (fun _ _ _ => False) := ⟨fun _ _ _ _ _ _ h => h.elim⟩
theorem w_and {k l : Bool} (ha : PT X a (tDT (zx X M) Γ (fun y => y = k))) (hb : k = true → PW X (.BoolOp .And (b :: rest) pos) (tDT (zx X M) Γ (fun y => y = l))) : PW X (.BoolOp .And (a :: b :: rest) pos) (tDT (zx X M) Γ (fun y => y = (k && l))) := by
  cases k with
  | true => exact pw_imp (pw_and ha (hb rfl)) fun σ H Q ⟨B0, H0, B, o, q⟩ => ⟨B0, H0, B, o, fun d B1 H1 hd g1 o1 => by
      subst hd
      exact ⟨B0, H0, B1, o1, fun d B2 H2 hd g2 o2 => q d B2 H2 (by rw [hd]; rfl) (g1.trans g2) o2⟩⟩
  | false => exact pw_imp (pw_and ha pw_none) fun σ H Q ⟨B0, H0, B, o, q⟩ => ⟨B0, H0, B, o, fun d B1 H1 hd g1 o1 => by
      subst hd
      exact q false B1 H1 rfl g1 o1⟩
theorem w_or {k l : Bool} (ha : PT X a (tDT (zx X M) Γ (fun y => y = k))) (hb : k = false → PW X (.BoolOp .Or (b :: rest) pos) (tDT (zx X M) Γ (fun y => y = l))) : PW X (.BoolOp .Or (a :: b :: rest) pos) (tDT (zx X M) Γ (fun y => y = (k || l))) := by
  cases k with
  | false => exact pw_imp (pw_or ha (hb rfl)) fun σ H Q ⟨B0, H0, B, o, q⟩ => ⟨B0, H0, B, o, fun d B1 H1 hd g1 o1 => by
      subst hd
      exact ⟨B0, H0, B1, o1, fun d B2 H2 hd g2 o2 => q d B2 H2 (by rw [hd]; rfl) (g1.trans g2) o2⟩⟩
  | true => exact pw_imp (pw_or ha pw_none) fun σ H Q ⟨B0, H0, B, o, q⟩ => ⟨B0, H0, B, o, fun d B1 H1 hd g1 o1 => by
      subst hd
      exact q true B1 H1 rfl g1 o1⟩
theorem t_not {k : Bool} (ha : PT X a (tDT (zx X M) Γ (fun y => y = k))) : PT X (.UnaryOp .Not a pos) (tDT (zx X M) Γ (fun y => y = !k)) :=
  pt_imp (pt_not ha) fun σ H Q ⟨B0, H0, B, o, q⟩ => ⟨B0, H0, B, o, fun d B1 H1 hd g1 o1 => q _ B1 H1 (by rw [hd]) g1 o1⟩
theorem x_one {op : BoolOp} {R : VD → Prop} (h : PE X a (tD (zx X M) Γ R)) : PE X (.BoolOp op [a] pos) (tD (zx X M) Γ R) := pe_one h
theorem x_and {k l : Bool} (ha : PE X a (tD (zx X M) Γ (fun y => y = .d (.bool k)))) (hb : k = true → PE X (.BoolOp .And (b :: rest) pos) (tD (zx X M) Γ (fun y => y = .d (.bool l)))) : PE X (.BoolOp .And (a :: b :: rest) pos) (tD (zx X M) Γ (fun y => y = .d (.bool (k && l)))) := by
  cases k with
  | true => exact pe_imp (pe_and ha (hb rfl)) fun σ H Q ⟨B0, H0, B, o, q⟩ => ⟨B0, H0, B, o, fun u r B1 H1 hd g1 o1 hu => by
      subst hd
      exact ⟨true, dpb hu, B0, H0, B1, o1, fun u r B2 H2 hd g2 o2 hu => q u r B2 H2 (by rw [hd]; rfl) (g1.trans g2) o2 hu⟩⟩
  | false => exact pe_imp (pe_and ha pe_none) fun σ H Q ⟨B0, H0, B, o, q⟩ => ⟨B0, H0, B, o, fun u r B1 H1 hd g1 o1 hu => by
      subst hd
      exact ⟨false, dpb hu, q _ _ B1 H1 rfl g1 o1 (Dp.bl false)⟩⟩
theorem x_or {k l : Bool} (ha : PE X a (tD (zx X M) Γ (fun y => y = .d (.bool k)))) (hb : k = false → PE X (.BoolOp .Or (b :: rest) pos) (tD (zx X M) Γ (fun y => y = .d (.bool l)))) : PE X (.BoolOp .Or (a :: b :: rest) pos) (tD (zx X M) Γ (fun y => y = .d (.bool (k || l)))) := by
  cases k with
  | false => exact pe_imp (pe_or ha (hb rfl)) fun σ H Q ⟨B0, H0, B, o, q⟩ => ⟨B0, H0, B, o, fun u r B1 H1 hd g1 o1 hu => by
      subst hd
      exact ⟨false, dpb hu, B0, H0, B1, o1, fun u r B2 H2 hd g2 o2 hu => q u r B2 H2 (by rw [hd]; rfl) (g1.trans g2) o2 hu⟩⟩
  | true => exact pe_imp (pe_or ha pe_none) fun σ H Q ⟨B0, H0, B, o, q⟩ => ⟨B0, H0, B, o, fun u r B1 H1 hd g1 o1 hu => by
      subst hd
      exact ⟨true, dpb hu, q _ _ B1 H1 rfl g1 o1 (Dp.bl true)⟩⟩
theorem x_not {k : Bool} (ha : PE X a (tD (zx X M) Γ (fun y => y = .d (.bool k)))) : PE X (.UnaryOp .Not a pos) (tD (zx X M) Γ (fun y => y = .d (.bool !k))) :=
  pe_imp (pe_not ha) fun σ H Q ⟨B0, H0, B, o, q⟩ => ⟨B0, H0, B, o, fun u r B1 H1 hd g1 o1 hu => by
      subst hd
      exact ⟨k, dpb hu, q _ _ B1 H1 rfl g1 o1 (Dp.bl _)⟩⟩
open Classical in
theorem x_if {Rc : Bool → Prop} {R : VD → Prop} (hc : PT X c (tDT (zx X M) Γ Rc)) (ha : Rc true → PE X a (tD (zx X M) Γ R)) (hb : Rc false → PE X b (tD (zx X M) Γ R)) : PE X (.IfExp c a b pos) (tD (zx X M) Γ R) := by
  have key : ∀ {e : Expr} {k : Bool}, (Rc k → PE X e (tD (zx X M) Γ R)) → ∃ t : TE, PE X e t ∧ (Rc k → t = tD (zx X M) Γ R) := fun {e k} h => by
    by_cases q : Rc k
    · exact ⟨_, h q, fun _ => rfl⟩
    · exact ⟨_, pe_none, fun z => absurd z q⟩
  obtain ⟨ta, pa, ea⟩ := key ha
  obtain ⟨tb, pb, eb⟩ := key hb
  exact pe_imp (pe_ifExp hc pa pb) fun σ H Q ⟨B0, H0, B, o, q⟩ => ⟨B0, H0, B, o, fun d B1 H1 hd g1 o1 => by
    cases d with
    | true =>
      refine iteT ?_
      rw [ea hd]
      exact ⟨B0, H0, B1, o1, fun u r B2 H2 hr g2 o2 hu => q u r B2 H2 hr (g1.trans g2) o2 hu⟩
    | false =>
      refine iteF ?_
      rw [eb hd]
      exact ⟨B0, H0, B1, o1, fun u r B2 H2 hr g2 o2 hu => q u r B2 H2 hr (g1.trans g2) o2 hu⟩⟩
/-! ### items -/
def ixD : PyData → Int → Option PyData
  | .tuple ds, i => atI ds i
  | .list ds, i => atI ds i
  | _, _ => none
theorem dpall_at {K : PySem.W.Frag} {H : Hp} {vs : List V} {ds : List PyData} {i : Int} {d : PyData} (h : DpAll K H vs ds) (e : atI ds i = some d) : ∃ v, atI vs i = some v ∧ Dp K H v d := by
  unfold atI at e ⊢
  rw [dpall_len h]
  cases q : ixN ds.length i with
  | none =>
    rw [q] at e
    cases e
  | some j =>
    rw [q] at e
    exact dpall_get (i := j) h e
theorem rd_ix {Z : Zt} {x y : PyData} {i : Int} (h : ixD x i = some y) : RD Z (rIx Z.K) (.d x) (.d (.int i)) (fun z => z = .d y) := fun B H u v Q hs hu hv k => by
  have hv := dpi hv
  subst hv
  cases x with
  | tuple ds =>
    obtain ⟨a, vs, rfl, h1, h2⟩ := dpt hu
    obtain ⟨v, e1, e2⟩ := dpall_at h2 h
    exact .inr (.inl ⟨a, vs, i, v, rfl, rfl, sqt_mono hs h1, e1, k _ _ B H rfl (Gr.refl hs) e2⟩)
  | list ds =>
    obtain ⟨a, vs, rfl, h1, h2⟩ := dpl hu
    obtain ⟨v, e1, e2⟩ := dpall_at h2 h
    exact .inl ⟨a, vs, i, v, rfl, rfl, hs.seq h1, e1, k _ _ B H rfl (Gr.refl hs) e2⟩
  | _ => cases h
theorem x_ix {y z : PyData} {i : Int} (ha : PE X a (tD (zx X M) Γ (fun r => r = .d y))) (hb : PE X b (tD (zx X M) Γ (fun r => r = .d (.int i)))) (h : ixD y i = some z) (hs : PlainIx b := by exact fun _ _ => rfl) : PE X (.Subscript a b pos) (tD (zx X M) Γ (fun r => r = .d z)) :=
  pe_imp (pe_ix ix_seq ha hb hs) (op_read (det2 (rd_ix h)))
/-! ### rows of values -/
theorem xa_nil : PA X [] (tDA (zx X M) Γ (fun l => l = [])) := pa_imp pa_nil fun σ H Q ⟨B0, H0, B, o, k⟩ => k [] [] B H rfl (Gr.refl o.bh) o .nil
theorem xa_consR {Ra : VD → Prop} {Rr Rz : List VD → Prop} (ha : PE X e (tD (zx X M) Γ Ra)) (hr : PA X es (tDA (zx X M) Γ Rr)) (h : ∀ r rs, Ra r → Rr rs → Rz (r :: rs)) (hs : starEach (e :: es) X.env = (false, eval e X.env) :: starEach es X.env := by rfl) : PA X (e :: es) (tDA (zx X M) Γ Rz) :=
  pa_imp (pa_cons ha hr hs) fun σ H Q ⟨B0, H0, B, o, k⟩ => ⟨B0, H0, B, o, fun u r B1 H1 hd g1 o1 hu => ⟨B0, H0, B1, o1, fun vs rs B2 H2 hds g2 o2 hvs => k _ _ B2 H2 (h r rs hd hds) (g1.trans g2) o2 (.cons (vok_mono g2.bb hu) hvs)⟩⟩
theorem xa_cons {r : VD} {rs : List VD} (ha : PE X e (tD (zx X M) Γ (fun y => y = r))) (hr : PA X es (tDA (zx X M) Γ (fun l => l = rs))) (hs : starEach (e :: es) X.env = (false, eval e X.env) :: starEach es X.env := by rfl) : PA X (e :: es) (tDA (zx X M) Γ (fun l => l = r :: rs)) :=
  xa_consR ha hr (fun _ _ e1 e2 => by rw [e1, e2]) hs
theorem xp_nil : PA X [] (tDP (zx X M) Γ (fun l => l = [])) := pa_imp pa_nil fun σ H Q ⟨B0, H0, B, o, k⟩ => k [] [] B H rfl (Gr.refl o.bh) o .nil
theorem xp_consR {Ra : VD → Prop} {Rr Rz : List PyData → Prop} (ha : PE X e (tD (zx X M) Γ Ra)) (hr : PA X es (tDP (zx X M) Γ Rr)) (h : ∀ r rs, Ra r → Rr rs → ∃ d, r = .d d ∧ Rz (d :: rs)) (hs : starEach (e :: es) X.env = (false, eval e X.env) :: starEach es X.env := by rfl) : PA X (e :: es) (tDP (zx X M) Γ Rz) :=
  pa_imp (pa_cons ha hr hs) fun σ H Q ⟨B0, H0, B, o, k⟩ => ⟨B0, H0, B, o, fun u r B1 H1 hd g1 o1 hu => ⟨B0, H0, B1, o1, fun vs rs B2 H2 hds g2 o2 hvs => by
    obtain ⟨d, e1, hz⟩ := h r rs hd hds
    subst e1
    exact k _ _ B2 H2 hz (g1.trans g2) o2 (.cons (dp_mono g2.bb _ _ hu) hvs)⟩⟩
theorem xp_cons {r : PyData} {rs : List PyData} (ha : PE X e (tD (zx X M) Γ (fun y => y = .d r))) (hr : PA X es (tDP (zx X M) Γ (fun l => l = rs))) (hs : starEach (e :: es) X.env = (false, eval e X.env) :: starEach es X.env := by rfl) : PA X (e :: es) (tDP (zx X M) Γ (fun l => l = r :: rs)) :=
  xp_consR ha hr (fun _ _ e1 e2 => ⟨r, e1, by rw [e2]⟩) hs
theorem x_tupR {x1 : Nat} {R : List PyData → Prop} (h : PA X es (tDP (zx X M) Γ R)) (hl : ∀ ds, R ds → ds.length ≤ 1000) : PE X (.Tuple es x1 pos) (tD (zx X M) Γ (fun y => ∃ ds, R ds ∧ y = .d (.tuple ds))) :=
  pe_imp (pe_tup h) fun σ H Q ⟨B0, H0, B, o, k⟩ => ⟨B0, H0, B, o, fun vs ds B1 H1 hd g1 o1 hvs => by
    have hl := hl _ hd
    rw [← dpall_len hvs] at hl
    refine ⟨Nat.le_of_lt (small1000 hl), fun p hp => ?_⟩
    have g := Gr.new o1.bh (o := .tup vs) hp
    exact k _ _ _ _ ⟨ds, hd, rfl⟩ (g1.trans g.lift) (o1.grow g) (Dp.tup (.inl (.inl upd_same)) (dpall_mono g.bb _ _ hvs))⟩
theorem x_tup {x1 : Nat} {ds : List PyData} (h : PA X es (tDP (zx X M) Γ (fun l => l = ds))) (hl : ds.length ≤ 1000 := by simp) : PE X (.Tuple es x1 pos) (tD (zx X M) Γ (fun y => y = .d (.tuple ds))) :=
  x_mono (x_tupR h fun l e => by rw [e]; exact hl) fun r ⟨l, e1, e2⟩ => by rw [e2, e1]
theorem n_lstR {R : List PyData → Prop} (h : PA X es (tDP (zx X M) Γ R)) (hl : ∀ ds, R ds → ds.length ≤ 1000) (hM : ∀ a, M = some a → True := by intros; trivial) : PE X (.List es pos) (tN (zx X M) Γ R) :=
  pe_imp (pe_lst h) fun σ H Q ⟨B0, H0, B, o, k⟩ => ⟨B0, H0, B, o, fun vs ds B1 H1 hd g1 o1 hvs => by
    have hl := hl _ hd
    rw [← dpall_len hvs] at hl
    refine ⟨Nat.le_of_lt (small1000 hl), fun p hp => ?_⟩
    have hb : B1 p = none := o1.bh.free hp
    have hm : M ≠ some p := fun z => by
      obtain ⟨_, c, cells, pos, rest, tot, q, _⟩ := o1.hand p z
      rw [hp] at q
      cases q
    have hH : H p = none := by
      cases q : H p with
      | none => rfl
      | some w => exact absurd hp (g1.al p (by rw [q]; simp))
    have g : Gr M B1 H1 B1 (upd H1 p (.lst vs)) := ⟨Same.refl _, fun a w z => by rw [upd_ne (ne_of_none z hb)]; exact o1.bh a w z, fun a w _ z => by rw [upd_ne (ne_of_none z hp)]; exact z, fun a z => .inl z, fun a z => by
      by_cases q : a = p
      · subst q
        exact absurd hp z
      · rw [upd_ne q]
        exact z⟩
    have hd1 : HandM (zx X M) B1 (upd H1 p (.lst vs)) := fun a z => by
      obtain ⟨nb, c, cells, pos, rest, tot, q, q2⟩ := o1.hand a z
      exact ⟨nb, c, cells, pos, rest, tot, by rw [upd_ne (ne_of_none q hp)]; exact q, q2⟩
    exact k p vs ds B1 _ hd (g1.trans g) (o1.growM g hd1) hH hb hm upd_same hvs⟩
theorem n_lst {ds : List PyData} (h : PA X es (tDP (zx X M) Γ (fun l => l = ds))) (hl : ds.length ≤ 1000 := by simp) : PE X (.List es pos) (tN (zx X M) Γ (fun l => l = ds)) := n_lstR h fun l e => by rw [e]; exact hl
/-- a new list of one's own, from now on it stands -/
theorem x_ofN {R : List PyData → Prop} (h : PE X e (tN (zx X M) Γ R)) : PE X e (tD (zx X M) Γ (fun y => ∃ ds, R ds ∧ y = .d (.list ds))) :=
  pe_imp h fun σ H Q ⟨B0, H0, B, o, k⟩ => ⟨B0, H0, B, o, fun l vs ds B1 H1 hd g1 o1 hl hb hm hH hvs => by
    have g : Gr M B H (upd B1 l (.lst vs)) H1 := ⟨fun a w z => by rw [upd_ne (ne_of_none (g1.bb a w z) hb)]; exact g1.bb a w z, fun a w z => by
      by_cases q : a = l
      · subst q
        rw [upd_same] at z
        rw [← z]
        exact hH
      · rw [upd_ne q] at z
        exact o1.bh a w z, g1.hh, fun a z => by
      by_cases q : a = l
      · subst q
        exact .inr hl
      · rw [upd_ne q] at z
        exact g1.nw a z, g1.al⟩
    have up : Same B1 (upd B1 l (.lst vs)) := fun a w z => by rw [upd_ne (ne_of_none z hb)]; exact z
    have hd1 : HandM (zx X M) (upd B1 l (.lst vs)) H1 := fun a z => by
      obtain ⟨nb, c, cells, pos, rest, tot, q, q2, q3⟩ := o1.hand a z
      exact ⟨by rw [upd_ne (fun w => hm (by rw [← w]; exact z))]; exact nb, c, cells, pos, rest, tot, q, up.seq q2, q3⟩
    exact k _ _ _ _ ⟨ds, hd, rfl⟩ g (o.growM g hd1) (Dp.lst (.inl (.inl upd_same)) (dpall_mono up _ _ hvs))⟩
theorem x_lst {ds : List PyData} (h : PA X es (tDP (zx X M) Γ (fun l => l = ds))) (hl : ds.length ≤ 1000 := by simp) : PE X (.List es pos) (tD (zx X M) Γ (fun y => y = .d (.list ds))) :=
  x_mono (x_ofN (n_lst h hl)) fun r ⟨l, e1, e2⟩ => by rw [e2, e1]
end
end K27
set_option maxHeartbeats 4000000
/-! Calls: of the text's own defs and classes, of what is built in. -/
namespace K27
open PySem PySem.Spec PyProof.Rows L2

theorem vok_m {P : Program} {w : World} {K : PySem.W.Frag} {M M' : Option Addr} {B : Hp} {v : V} : ∀ {r : VD}, VOk ⟨P, w, K, M⟩ B v r → VOk ⟨P, w, K, M'⟩ B v r
  | .d x, h => h
  | .ob C fs, h => h
  | .dc kvs, h => by
    obtain ⟨a, xs, h1, hs, h2, h3⟩ := h
    exact ⟨a, xs, h1, hs, h2, ⟨h3.pr, h3.nd⟩⟩
  | .l2 C fs y, h => h
theorem vsok_m {P : Program} {w : World} {K : PySem.W.Frag} {M M' : Option Addr} {B : Hp} : ∀ {vs : List V} {rs : List VD}, VsOk ⟨P, w, K, M⟩ B vs rs → VsOk ⟨P, w, K, M'⟩ B vs rs
  | _, _, .nil => .nil
  | _, _, .cons h t => .cons (vok_m h) (vsok_m t)
/-- a promise: called with the data A i (C i), it hands back R i, nothing that stood is changed -/
def spP (P : Program) (w : World) (K : PySem.W.Frag) {ι : Type} (A : ι → List VD) (C : ι → Prop) (R : ι → VD) : Sp := fun vs H Q _ => ∃ (i : ι) (B : Hp), C i ∧ Same B H ∧ VsOk ⟨P, w, K, none⟩ B vs (A i) ∧ ∀ v B' H', Gr none B H B' H' → VOk ⟨P, w, K, none⟩ B' v (R i) → Q v H'
structure Cal (P : Program) (w : World) (K : PySem.W.Frag) (mg : Str → Option Value) (base : Heap) (k : Nat) (x : Str) (sp : Sp) : Prop where
  ex : ∃ f fd ps, FnOk P w K mg base CX0 k f fd ps sp ∧ mg x = some (.ref f) ∧ PySem.W.keepIn K (.ref f) = true ∧ Binds K fd ps []
section
variable {X : Cx} {M : Option Addr} {Γ : Gm} {a b c e : Expr} {es rest : List Expr} {p p2 pos : Pos} {x : Str} {T id : String}
theorem x_callR {ι : Type} {A : ι → List VD} {C : ι → Prop} {R : ι → VD} {k j : Nat} {Ra : List VD → Prop} {Rz : VD → Prop} (cl : Cal X.prog X.w X.K X.mg X.base k x (spP X.prog X.w X.K A C R)) (hr : Room j X.A) (ha : PA X (e :: es) (tDA (zx X M) Γ Ra)) (h : ∀ l, Ra l → ∃ i, C i ∧ l = A i ∧ Rz (R i)) (hk : k ≤ j := by decide) (hg : Gl X x := by rfl)
    (hdb : (x == ("__debug__" : Str)) = false := by decide) (he : starEach (e :: es) X.env = (false, eval e X.env) :: starEach es X.env := by rfl) (hpl : (backTo pos (starEach es X.env)).any (·.1) = false := by rfl) : PE X (.Call (.Name x p) (e :: es) [] pos) (tD (zx X M) Γ Rz) := by
  obtain ⟨f, fd, ps, F, hm, hkp, hb⟩ := cl.ex
  refine pe_imp (pe_call F (hr.mono hk) hg hm hkp hb .nil pass0 ha hdb he hpl) fun σ H Q ⟨B0, H0, B, o, q⟩ => ⟨B0, H0, B, o, fun vs rs B1 H1 hrs g1 o1 hvs => ?_⟩
  obtain ⟨i, hC, e1, hz⟩ := h rs hrs
  subst e1
  rw [List.append_nil]
  exact ⟨i, B1, hC, o1.bh, vsok_m hvs, fun v B' H' g hv => q v _ B' H' hz (g1.trans g.lift) (o1.grow g) (vok_m hv)⟩
theorem x_call {ι : Type} {A : ι → List VD} {C : ι → Prop} {R : ι → VD} {k j : Nat} (cl : Cal X.prog X.w X.K X.mg X.base k x (spP X.prog X.w X.K A C R)) (hr : Room j X.A) (i : ι) (ha : PA X (e :: es) (tDA (zx X M) Γ (fun l => l = A i))) (hC : C i) (hk : k ≤ j := by decide) (hg : Gl X x := by rfl)
    (hdb : (x == ("__debug__" : Str)) = false := by decide) (he : starEach (e :: es) X.env = (false, eval e X.env) :: starEach es X.env := by rfl) (hpl : (backTo pos (starEach es X.env)).any (·.1) = false := by rfl) : PE X (.Call (.Name x p) (e :: es) [] pos) (tD (zx X M) Γ (fun y => y = R i)) :=
  x_callR cl hr ha (fun l e => ⟨i, hC, e, rfl⟩) hk hg hdb he hpl
/-! ### instances -/
def spI (C : Addr) (ns : List Str) : Sp := fun vs H Q _ => ∃ (q dx : Addr) (us : List V), vs = .ref q :: us ∧ us.length = ns.length ∧ H q = some (.ins C dx []) ∧ Q .non (upd H q (.ins C dx (ns.zip us)))
structure Mks (P : Program) (w : World) (K : PySem.W.Frag) (mg : Str → Option Value) (base : Heap) (k : Nat) (x : Str) (C : Addr) (ns : List Str) : Prop where
  ex : ∃ f fd ps, Mk K C f ∧ FnOk P w K mg base CX0 k f fd ps (spI C ns) ∧ mg x = some (.ref C) ∧ Binds K fd ps []
theorem zip_map1 {α β : Type} : ∀ {l : List α} {m : List β}, m.length = l.length → (l.zip m).map (·.1) = l
  | [], [], _ => rfl
  | [], _ :: _, h => by cases h
  | _ :: _, [], h => by cases h
  | a :: l, b :: m, h => congrArg (a :: ·) (zip_map1 (Nat.succ.inj h))
theorem zip_map2 {α β : Type} : ∀ {l : List α} {m : List β}, m.length = l.length → (l.zip m).map (·.2) = m
  | [], [], _ => rfl
  | [], _ :: _, h => by cases h
  | _ :: _, [], h => by cases h
  | a :: l, b :: m, h => congrArg (b :: ·) (zip_map2 (Nat.succ.inj h))
theorem x_make {k j : Nat} {C : Addr} {ns : List Str} {ds : List PyData} (mk : Mks X.prog X.w X.K X.mg X.base k x C ns) (hr : Room j X.A) (ha : PA X (e :: es) (tDP (zx X M) Γ (fun l => l = ds))) (hl : ds.length = ns.length := by rfl) (hk : k + 1 ≤ j := by decide) (hg : Gl X x := by rfl)
    (hdb : (x == ("__debug__" : Str)) = false := by decide) (he : starEach (e :: es) X.env = (false, eval e X.env) :: starEach es X.env := by rfl) (hpl : (backTo pos (starEach es X.env)).any (·.1) = false := by rfl) : PE X (.Call (.Name x p) (e :: es) [] pos) (tD (zx X M) Γ (fun y => y = .ob C (ns.zip ds))) := by
  obtain ⟨f, fd, ps, Mk, F, hm, hb⟩ := mk.ex
  refine pe_imp (pe_make Mk F (hr.mono hk) hg hm hb .nil pass0 ha hdb he hpl) fun σ H Q ⟨B0, H0, B, o, q⟩ => ⟨B0, H0, B, o, fun vs rs B1 H1 hrs g1 o1 hvs z dx hz hdx hne => ?_⟩
  subst hrs
  have lv : vs.length = ns.length := (dpall_len hvs).trans hl
  refine ⟨z, dx, vs, by rw [List.append_nil], lv, upd_same, rfl, ?_⟩
  have hbz : B1 z = none := o1.bh.free hz
  have up : Same B1 (upd B1 z (.ins C dx (ns.zip vs))) := fun a w e => by rw [upd_ne (ne_of_none e hbz)]; exact e
  have h1 : ∀ {a : Addr} {w : HO}, H1 a = some w → upd (upd (upd H1 dx (.own z)) z (.ins C dx [])) z (.ins C dx (ns.zip vs)) a = some w := fun {a w} e => by
    rw [upd_ne (ne_of_none e hz), upd_ne (ne_of_none e hz), upd_ne (ne_of_none e hdx)]
    exact e
  have g : Gr none B1 H1 (upd B1 z (.ins C dx (ns.zip vs))) (upd (upd (upd H1 dx (.own z)) z (.ins C dx [])) z (.ins C dx (ns.zip vs))) := ⟨up, fun a w e => by
      by_cases ha : a = z
      · subst ha
        rw [upd_same] at e ⊢
        exact e
      · rw [upd_ne ha] at e
        exact h1 (o1.bh a w e), fun a w _ e => h1 e, fun a e => by
      by_cases ha : a = z
      · subst ha
        exact .inr hz
      · rw [upd_ne ha] at e
        exact .inl e, fun a e => by
      cases q : H1 a with
      | none => exact absurd q e
      | some w =>
        rw [h1 q]
        simp⟩
  refine q _ _ _ _ rfl (g1.trans g.lift) (o1.grow g) ⟨z, dx, ns.zip vs, rfl, upd_same, ?_, ?_⟩
  · rw [zip_map1 lv, zip_map1 hl]
  · rw [zip_map2 lv, zip_map2 hl]
    exact dpall_mono up _ _ hvs
theorem lookup_put {α : Type} {f g : Str} {v : α} {l : List (Str × α)} : ((g, v) :: l).lookup f = if f = g then some v else l.lookup f := by
  by_cases h : f = g
  · subst h
    simp [List.lookup]
  · have e : (f == g) = false := by simpa using h
    rw [if_neg h]
    simp [List.lookup, e]
theorem lookup_two {K : PySem.W.Frag} {B : Hp} {f : Str} {y : PyData} : ∀ {vs : List (Str × V)} {fs : List (Str × PyData)}, vs.map (·.1) = fs.map (·.1) → DpAll K B (vs.map (·.2)) (fs.map (·.2)) → fs.lookup f = some y → ∃ v, vs.lookup f = some v ∧ Dp K B v y
  | [], [], _, _, h => by cases h
  | [], _ :: _, h, _, _ => by cases h
  | _ :: _, [], h, _, _ => by cases h
  | (g, v) :: vs, (g2, d) :: fs, h, hd, hl => by
    have h1 : g = g2 := (List.cons.inj h).1
    have h2 := (List.cons.inj h).2
    subst h1
    cases hd with
    | cons d1 d2 =>
      rw [lookup_put] at hl
      by_cases e : f = g
      · rw [if_pos e] at hl
        have hl := Option.some.inj hl
        subst hl
        exact ⟨v, by rw [lookup_put, if_pos e], d1⟩
      · rw [if_neg e] at hl
        obtain ⟨v', q1, q2⟩ := lookup_two h2 d2 hl
        exact ⟨v', by rw [lookup_put, if_neg e]; exact q1, q2⟩
theorem x_fld {C : Addr} {fs : List (Str × PyData)} {f : Str} {y : PyData} (he : PE X e (tD (zx X M) Γ (fun r => r = .ob C fs))) (hc : Cls X.K C) (hn : NoAttr X.K C f) (hl : fs.lookup f = some y) (hb : attributeBase e f X.env (eval e X.env) = eval e X.env := by rfl) : PE X (.Attribute e f pos) (tD (zx X M) Γ (fun r => r = .d y)) :=
  pe_imp (pe_fld he hb) fun σ H Q ⟨B0, H0, B, o, q⟩ => ⟨B0, H0, B, o, fun u r B1 H1 hd g1 o1 hu => by
    subst hd
    obtain ⟨a, dx, vs, rfl, h1, h2, h3⟩ := hu
    obtain ⟨v, q1, q2⟩ := lookup_two h2 h3 hl
    exact ⟨a, C, dx, vs, v, rfl, o1.bh _ _ h1, hc, hn, q1, q v _ B1 H1 rfl g1 o1 q2⟩⟩
/-! ### what is built in -/
def RC (Z : Zt) (r : List V → Hp → VK → Prop) (rs : List VD) (R : VD → Prop) : Prop := ∀ B H vs Q, Same B H → VsOk Z B vs rs → (∀ w z B' H', R z → Gr none B H B' H' → VOk Z B' w z → Q w H') → r vs H Q
theorem x_cb {r : List V → Hp → VK → Prop} {Ra : List VD → Prop} {Rz : VD → Prop} (hc : CallR X (.builtin id) r) (hm : X.mg x = none) (hv : bootBuiltins x = some (.builtin id)) (ha : PA X (e :: es) (tDA (zx X M) Γ Ra)) (h : ∀ rs, Ra rs → RC (zx X M) r rs Rz) (hg : Gl X x := by rfl) (hn : x ≠ "__name__" := by decide) (hdb : (x == ("__debug__" : Str)) = false := by decide)
    (he : starEach (e :: es) X.env = (false, eval e X.env) :: starEach es X.env := by rfl) (hpl : (backTo pos (starEach es X.env)).any (·.1) = false := by rfl) : PE X (.Call (.Name x p) (e :: es) [] pos) (tD (zx X M) Γ Rz) :=
  pe_imp (pe_callB hc hg hm hv ha hn hdb he hpl) fun σ H Q ⟨B0, H0, B, o, q⟩ => ⟨B0, H0, B, o, fun vs rs B1 H1 hrs g1 o1 hvs => h rs hrs B1 H1 vs Q o1.bh hvs fun w z B' H' hz g hw => q w z B' H' hz (g1.trans g.lift) (o1.grow g) hw⟩
theorem x_ct {r : List V → Hp → VK → Prop} {Ra : List VD → Prop} {Rz : VD → Prop} (hc : CallR X (.type T) r) (hm : X.mg x = none) (hv : bootBuiltins x = some (.type T)) (ha : PA X (e :: es) (tDA (zx X M) Γ Ra)) (h : ∀ rs, Ra rs → RC (zx X M) r rs Rz) (hg : Gl X x := by rfl) (hn : x ≠ "__name__" := by decide) (hdb : (x == ("__debug__" : Str)) = false := by decide)
    (he : starEach (e :: es) X.env = (false, eval e X.env) :: starEach es X.env := by rfl) (hpl : (backTo pos (starEach es X.env)).any (·.1) = false := by rfl) : PE X (.Call (.Name x p) (e :: es) [] pos) (tD (zx X M) Γ Rz) :=
  pe_imp (pe_callTy hc hg hm hv ha hn hdb he hpl) fun σ H Q ⟨B0, H0, B, o, q⟩ => ⟨B0, H0, B, o, fun vs rs B1 H1 hrs g1 o1 hvs => h rs hrs B1 H1 vs Q o1.bh hvs fun w z B' H' hz g hw => q w z B' H' hz (g1.trans g.lift) (o1.grow g) hw⟩
theorem vs1 {Z : Zt} {B : Hp} {vs : List V} {r : VD} (h : VsOk Z B vs [r]) : ∃ v, vs = [v] ∧ VOk Z B v r := by
  cases h with
  | cons h1 h2 =>
    cases h2
    exact ⟨_, rfl, h1⟩
theorem vs2 {Z : Zt} {B : Hp} {vs : List V} {r s : VD} (h : VsOk Z B vs [r, s]) : ∃ u v, vs = [u, v] ∧ VOk Z B u r ∧ VOk Z B v s := by
  cases h with
  | cons h1 h2 =>
    obtain ⟨v, rfl, h3⟩ := vs1 h2
    exact ⟨_, _, rfl, h1, h3⟩
def seqD (b : Bool) (ds : List PyData) : PyData := if b then .list ds else .tuple ds
theorem dpseq {K : PySem.W.Frag} {B : Hp} {v : V} {b : Bool} {ds : List PyData} (h : Dp K B v (seqD b ds)) : ∃ a vs, v = .ref a ∧ (SqL K B a vs ∨ SqT K B a vs) ∧ DpAll K B vs ds := by
  cases b with
  | true =>
    obtain ⟨a, vs, h1, h2, h3⟩ := dpl (show Dp K B v (.list ds) from h)
    exact ⟨a, vs, h1, .inl h2, h3⟩
  | false =>
    obtain ⟨a, vs, h1, h2, h3⟩ := dpt (show Dp K B v (.tuple ds) from h)
    exact ⟨a, vs, h1, .inr h2, h3⟩
section
variable {i j : Int} (hm : X.mg x = none)
include hm
theorem x_len (k : Bool) {ds : List PyData} (hv : bootBuiltins x = some (.builtin "len")) (ha : PE X a (tD (zx X M) Γ (fun y => y = .d (seqD k ds)))) (hg : Gl X x := by rfl) (hn : x ≠ "__name__" := by decide) (hdb : (x == ("__debug__" : Str)) = false := by decide)
    (hs : starEach [a] X.env = (false, eval a X.env) :: starEach [] X.env := by rfl) (hpl : (backTo pos (starEach [] X.env)).any (·.1) = false := by rfl) : PE X (.Call (.Name x p) [a] [] pos) (tD (zx X M) Γ (fun y => y = .d (.int ds.length))) :=
  x_cb call_len_seq hm hv (xa_cons ha xa_nil hs) (fun rs e B H vs Q hs hvs q => by
    subst e
    obtain ⟨v, rfl, h1⟩ := vs1 hvs
    obtain ⟨a, ws, rfl, h2, h3⟩ := dpseq h1
    refine ⟨a, ws, rfl, h2.imp hs.seq (sqt_mono hs), ?_⟩
    rw [dpall_len h3]
    exact q _ _ B H rfl (Gr.refl hs) (Dp.int _)) hg hn hdb hs hpl
theorem x_int1 (hv : bootBuiltins x = some (.type "int")) (ha : PE X a (tD (zx X M) Γ (fun y => y = .d (.int i)))) (hg : Gl X x := by rfl) (hn : x ≠ "__name__" := by decide) (hdb : (x == ("__debug__" : Str)) = false := by decide)
    (hs : starEach [a] X.env = (false, eval a X.env) :: starEach [] X.env := by rfl) (hpl : (backTo pos (starEach [] X.env)).any (·.1) = false := by rfl) : PE X (.Call (.Name x p) [a] [] pos) (tD (zx X M) Γ (fun y => y = .d (.int i))) :=
  x_ct call_int1 hm hv (xa_cons ha xa_nil hs) (fun rs e B H vs Q hs hvs q => by
    subst e
    obtain ⟨v, rfl, h1⟩ := vs1 hvs
    obtain rfl := dpi h1
    exact .inl ⟨i, rfl, q _ _ B H rfl (Gr.refl hs) (Dp.int _)⟩) hg hn hdb hs hpl
theorem x_abs (hv : bootBuiltins x = some (.builtin "abs")) (ha : PE X a (tD (zx X M) Γ (fun y => y = .d (.int i)))) (hg : Gl X x := by rfl) (hn : x ≠ "__name__" := by decide) (hdb : (x == ("__debug__" : Str)) = false := by decide)
    (hs : starEach [a] X.env = (false, eval a X.env) :: starEach [] X.env := by rfl) (hpl : (backTo pos (starEach [] X.env)).any (·.1) = false := by rfl) : PE X (.Call (.Name x p) [a] [] pos) (tD (zx X M) Γ (fun y => y = .d (.int (if i < 0 then -i else i)))) :=
  x_cb call_abs hm hv (xa_cons ha xa_nil hs) (fun rs e B H vs Q hs hvs q => by
    subst e
    obtain ⟨v, rfl, h1⟩ := vs1 hvs
    obtain rfl := dpi h1
    exact ⟨i, rfl, q _ _ B H rfl (Gr.refl hs) (Dp.int _)⟩) hg hn hdb hs hpl
theorem x_max2 (hc : X.calm = true) (hv : bootBuiltins x = some (.builtin "max")) (ha : PE X a (tD (zx X M) Γ (fun y => y = .d (.int i)))) (hb : PE X b (tD (zx X M) Γ (fun y => y = .d (.int j)))) (hg : Gl X x := by rfl) (hn : x ≠ "__name__" := by decide) (hdb : (x == ("__debug__" : Str)) = false := by decide)
    (hs2 : starEach [b] X.env = (false, eval b X.env) :: starEach [] X.env := by rfl) (hs : starEach [a, b] X.env = (false, eval a X.env) :: starEach [b] X.env := by rfl) (hpl : (backTo pos (starEach [b] X.env)).any (·.1) = false := by rfl) : PE X (.Call (.Name x p) [a, b] [] pos) (tD (zx X M) Γ (fun y => y = .d (.int (if j > i then j else i)))) :=
  x_cb (call_max2 hc) hm hv (xa_cons ha (xa_cons hb xa_nil hs2) hs) (fun rs e B H vs Q hs hvs q => by
    subst e
    obtain ⟨u, v, rfl, h1, h2⟩ := vs2 hvs
    obtain rfl := dpi h1
    obtain rfl := dpi h2
    exact ⟨i, j, rfl, q _ _ B H rfl (Gr.refl hs) (Dp.int _)⟩) hg hn hdb hs hpl
/-- ints of a list as data -/
theorem dpall_ints {K : PySem.W.Frag} {B : Hp} : ∀ {ns : List Int} {vs : List V}, DpAll K B vs (ns.map PyData.int) → vs = ns.map V.int
  | [], _, h => by cases h; rfl
  | n :: ns, _, h => by
    cases h with
    | cons h1 h2 =>
      rw [dpi h1, dpall_ints h2]
      rfl
theorem dpall_of_ints {K : PySem.W.Frag} {B : Hp} : ∀ ns : List Int, DpAll K B (ns.map V.int) (ns.map PyData.int)
  | [] => .nil
  | n :: ns => .cons (Dp.int n) (dpall_of_ints ns)
theorem x_minL (hc : X.calm = true) {ns : List Int} {m : Int} (h1 : m ∈ ns) (h2 : ∀ y ∈ ns, m ≤ y) (hv : bootBuiltins x = some (.builtin "min")) (ha : PE X a (tD (zx X M) Γ (fun y => y = .d (.list (ns.map PyData.int))))) (hg : Gl X x := by rfl) (hn : x ≠ "__name__" := by decide) (hdb : (x == ("__debug__" : Str)) = false := by decide)
    (hs : starEach [a] X.env = (false, eval a X.env) :: starEach [] X.env := by rfl) (hpl : (backTo pos (starEach [] X.env)).any (·.1) = false := by rfl) : PE X (.Call (.Name x p) [a] [] pos) (tD (zx X M) Γ (fun y => y = .d (.int m))) :=
  x_cb (cr_min hc) hm hv (xa_cons ha xa_nil hs) (fun rs e B H vs Q hs hvs q => by
    subst e
    obtain ⟨v, rfl, q1⟩ := vs1 hvs
    obtain ⟨a, ws, rfl, q2, q3⟩ := dpl q1
    have e := dpall_ints hm q3
    subst e
    refine ⟨a, ns, rfl, hs.seq q2, List.length_pos_iff.mpr (fun z => by rw [z] at h1; cases h1), fun k k1 k2 => ?_⟩
    have ek : k = m := Int.le_antisymm (k2 m h1) (h2 k k1)
    subst ek
    exact q _ _ B H rfl (Gr.refl hs) (Dp.int _)) hg hn hdb hs hpl
theorem x_maxL (hc : X.calm = true) {ns : List Int} {m : Int} (h1 : m ∈ ns) (h2 : ∀ y ∈ ns, y ≤ m) (hv : bootBuiltins x = some (.builtin "max")) (ha : PE X a (tD (zx X M) Γ (fun y => y = .d (.list (ns.map PyData.int))))) (hg : Gl X x := by rfl) (hn : x ≠ "__name__" := by decide) (hdb : (x == ("__debug__" : Str)) = false := by decide)
    (hs : starEach [a] X.env = (false, eval a X.env) :: starEach [] X.env := by rfl) (hpl : (backTo pos (starEach [] X.env)).any (·.1) = false := by rfl) : PE X (.Call (.Name x p) [a] [] pos) (tD (zx X M) Γ (fun y => y = .d (.int m))) :=
  x_cb (cr_max hc) hm hv (xa_cons ha xa_nil hs) (fun rs e B H vs Q hs hvs q => by
    subst e
    obtain ⟨v, rfl, q1⟩ := vs1 hvs
    obtain ⟨a, ws, rfl, q2, q3⟩ := dpl q1
    have e := dpall_ints hm q3
    subst e
    refine ⟨a, ns, rfl, hs.seq q2, List.length_pos_iff.mpr (fun z => by rw [z] at h1; cases h1), fun k k1 k2 => ?_⟩
    have ek : k = m := Int.le_antisymm (h2 k k1) (k2 m h1)
    subst ek
    exact q _ _ B H rfl (Gr.refl hs) (Dp.int _)) hg hn hdb hs hpl
/-- tuple(list) -/
theorem x_tupL {ds : List PyData} (hv : bootBuiltins x = some (.type "tuple")) (ha : PE X a (tD (zx X M) Γ (fun y => y = .d (.list ds)))) (hg : Gl X x := by rfl) (hn : x ≠ "__name__" := by decide) (hdb : (x == ("__debug__" : Str)) = false := by decide)
    (hs : starEach [a] X.env = (false, eval a X.env) :: starEach [] X.env := by rfl) (hpl : (backTo pos (starEach [] X.env)).any (·.1) = false := by rfl) : PE X (.Call (.Name x p) [a] [] pos) (tD (zx X M) Γ (fun y => y = .d (.tuple ds))) :=
  x_ct call_tuple_of hm hv (xa_cons ha xa_nil hs) (fun rs e B H vs Q hs hvs q => by
    subst e
    obtain ⟨v, rfl, q1⟩ := vs1 hvs
    obtain ⟨a, ws, rfl, q2, q3⟩ := dpl q1
    refine ⟨a, ws, rfl, .inl ⟨hs.seq q2, fun l hl => ?_⟩⟩
    have g := Gr.new hs (o := .tup ws) hl
    exact q _ _ _ _ rfl g (Dp.tup (.inl (.inl upd_same)) (dpall_mono g.bb _ _ q3))) hg hn hdb hs hpl
/-- tuple(list or tuple) -/
theorem x_tupS (k : Bool) {ds : List PyData} (hv : bootBuiltins x = some (.type "tuple")) (ha : PE X a (tD (zx X M) Γ (fun y => y = .d (seqD k ds)))) (hg : Gl X x := by rfl) (hn : x ≠ "__name__" := by decide) (hdb : (x == ("__debug__" : Str)) = false := by decide)
    (hs : starEach [a] X.env = (false, eval a X.env) :: starEach [] X.env := by rfl) (hpl : (backTo pos (starEach [] X.env)).any (·.1) = false := by rfl) : PE X (.Call (.Name x p) [a] [] pos) (tD (zx X M) Γ (fun y => y = .d (.tuple ds))) := by
  cases k with
  | true => exact x_tupL hm hv ha hg hn hdb hs hpl
  | false => exact x_ct call_tuple_of hm hv (xa_cons ha xa_nil hs) (fun rs e B H vs Q hs hvs q => by
      subst e
      obtain ⟨v, rfl, q1⟩ := vs1 hvs
      obtain ⟨a, ws, rfl, q2, q3⟩ := dpt q1
      exact ⟨a, ws, rfl, .inr ⟨sqt_mono hs q2, q _ _ B H rfl (Gr.refl hs) (Dp.tup q2 q3)⟩⟩) hg hn hdb hs hpl
/-- list(..), a new list of one's own -/
theorem n_list (k : Bool) {ds : List PyData} (hv : bootBuiltins x = some (.type "list")) (ha : PE X a (tD (zx X M) Γ (fun y => y = .d (seqD k ds)))) (hg : Gl X x := by rfl) (hn : x ≠ "__name__" := by decide) (hdb : (x == ("__debug__" : Str)) = false := by decide)
    (hs : starEach [a] X.env = (false, eval a X.env) :: starEach [] X.env := by rfl) (hpl : (backTo pos (starEach [] X.env)).any (·.1) = false := by rfl) : PE X (.Call (.Name x p) [a] [] pos) (tN (zx X M) Γ (fun l => l = ds)) :=
  pe_imp (pe_callTy call_list_of hg hm hv (xa_cons ha xa_nil hs) hn hdb hs hpl) fun σ H Q ⟨B0, H0, B, o, k⟩ => ⟨B0, H0, B, o, fun vs rs B1 H1 hd g1 o1 hvs => by
    subst hd
    obtain ⟨v, rfl, q1⟩ := vs1 hvs
    obtain ⟨a, ws, rfl, q2, q3⟩ := dpseq q1
    refine ⟨a, ws, rfl, q2.imp o1.bh.seq (sqt_mono o1.bh), fun p hp => ?_⟩
    have hb : B1 p = none := o1.bh.free hp
    have hm : M ≠ some p := fun z => by
      obtain ⟨_, c, cells, pos, rest, tot, q, _⟩ := o1.hand p z
      rw [hp] at q
      cases q
    have hH : H p = none := by
      cases q : H p with
      | none => rfl
      | some w => exact absurd hp (g1.al p (by rw [q]; simp))
    have g : Gr M B1 H1 B1 (upd H1 p (.lst ws)) := ⟨Same.refl _, fun a w z => by rw [upd_ne (ne_of_none z hb)]; exact o1.bh a w z, fun a w _ z => by rw [upd_ne (ne_of_none z hp)]; exact z, fun a z => .inl z, fun a z => by
      by_cases q : a = p
      · subst q
        exact absurd hp z
      · rw [upd_ne q]
        exact z⟩
    have hd1 : HandM (zx X M) B1 (upd H1 p (.lst ws)) := fun a z => by
      obtain ⟨nb, c, cells, pos, rest, tot, q, q2⟩ := o1.hand a z
      exact ⟨nb, c, cells, pos, rest, tot, by rw [upd_ne (ne_of_none q hp)]; exact q, q2⟩
    exact k p ws ds B1 _ rfl (g1.trans g) (o1.growM g hd1) hH hb hm upd_same q3⟩
end
/-! ### min, max of a couple of ints -/
def rMin2T (K : PySem.W.Frag) : List V → Hp → VK → Prop := fun vs H Q => ∃ (a : Addr) (i j : Int), vs = [V.ref a] ∧ SqT K H a [.int i, .int j] ∧ Q (.int (min i j)) H
def rMax2T (K : PySem.W.Frag) : List V → Hp → VK → Prop := fun vs H Q => ∃ (a : Addr) (i j : Int), vs = [V.ref a] ∧ SqT K H a [.int i, .int j] ∧ Q (.int (max i j)) H
theorem alike2 (i j : Int) : PySem.W.AlikeAll [.int i, .int j] := ⟨fun x hx y hy => by
  rcases List.mem_cons.mp hx with rfl | hx
  · rcases List.mem_cons.mp hy with rfl | hy
    · rfl
    · rw [List.mem_singleton.mp hy]
      rfl
  · rw [List.mem_singleton.mp hx]
    rcases List.mem_cons.mp hy with rfl | hy
    · rfl
    · rw [List.mem_singleton.mp hy]
      rfl, fun x hx => by
  rcases List.mem_cons.mp hx with rfl | hx
  · intro z; cases z
  · rw [List.mem_singleton.mp hx]
    intro z; cases z⟩
theorem cr_min2T (hc : X.calm = true) {k : Nat} (hr : Room k X.A) : CallR X (.builtin "min") (rMin2T X.K) := by
  intro pins s σ H vs us Q I r h
  obtain ⟨a, i, j, rfl, hs, q⟩ := h
  obtain ⟨its, rv, hl, _⟩ := I.tuple hs
  obtain ⟨t, u, rfl⟩ := Vals.int2 rv
  rw [Vals.ref1 r]
  refine PySem.W.min_tuple_data (x := .int i) (xs := [.int j]) (I.ok.hd hc) (show s.heap.IsTuple a _ from hl) (.cons (.int i t) (.cons (.int j u) .nil)) (alike2 i j) (by have := hr.units; simp only [PyData.depthAll, PyData.depth]; omega) fun n v h' tk bs e1 rd hk => ?_
  have ev : PySem.W.minD (.int i) [.int j] = .int (min i j) := PySem.W.minD_ints i [j]
  rw [ev] at rd
  cases rd
  exact ⟨.int _, H, I.kept hk, ⟨_, rfl⟩, q⟩
theorem cr_max2T (hc : X.calm = true) {k : Nat} (hr : Room k X.A) : CallR X (.builtin "max") (rMax2T X.K) := by
  intro pins s σ H vs us Q I r h
  obtain ⟨a, i, j, rfl, hs, q⟩ := h
  obtain ⟨its, rv, hl, _⟩ := I.tuple hs
  obtain ⟨t, u, rfl⟩ := Vals.int2 rv
  rw [Vals.ref1 r]
  refine PySem.W.max_tuple_data (x := .int i) (xs := [.int j]) (I.ok.hd hc) (show s.heap.IsTuple a _ from hl) (.cons (.int i t) (.cons (.int j u) .nil)) (alike2 i j) (by have := hr.units; simp only [PyData.depthAll, PyData.depth]; omega) fun n v h' tk bs e1 rd hk => ?_
  have ev : PySem.W.maxD (.int i) [.int j] = .int (max i j) := PySem.W.maxD_ints i [j]
  rw [ev] at rd
  cases rd
  exact ⟨.int _, H, I.kept hk, ⟨_, rfl⟩, q⟩
theorem dp2 {K : PySem.W.Frag} {B : Hp} {ws : List V} {i j : Int} (h : DpAll K B ws [.int i, .int j]) : ws = [.int i, .int j] := by
  cases h with
  | cons h1 h2 =>
    cases h2 with
    | cons h3 h4 =>
      cases h4
      rw [dpi h1, dpi h3]
theorem x_min2T (hc : X.calm = true) {k : Nat} (hr : Room k X.A) (hm : X.mg x = none) {i j : Int} (hv : bootBuiltins x = some (.builtin "min")) (ha : PE X a (tD (zx X M) Γ (fun y => y = .d (.tuple [.int i, .int j])))) (hg : Gl X x := by rfl) (hn : x ≠ "__name__" := by decide) (hdb : (x == ("__debug__" : Str)) = false := by decide)
    (hs : starEach [a] X.env = (false, eval a X.env) :: starEach [] X.env := by rfl) (hpl : (backTo pos (starEach [] X.env)).any (·.1) = false := by rfl) : PE X (.Call (.Name x p) [a] [] pos) (tD (zx X M) Γ (fun y => y = .d (.int (min i j)))) :=
  x_cb (cr_min2T hc hr) hm hv (xa_cons ha xa_nil hs) (fun rs e B H vs Q hs hvs q => by
    subst e
    obtain ⟨v, rfl, q1⟩ := vs1 hvs
    obtain ⟨a, ws, rfl, q2, q3⟩ := dpt q1
    have e := dp2 q3
    subst e
    exact ⟨a, i, j, rfl, sqt_mono hs q2, q _ _ B H rfl (Gr.refl hs) (Dp.int _)⟩) hg hn hdb hs hpl
theorem x_max2T (hc : X.calm = true) {k : Nat} (hr : Room k X.A) (hm : X.mg x = none) {i j : Int} (hv : bootBuiltins x = some (.builtin "max")) (ha : PE X a (tD (zx X M) Γ (fun y => y = .d (.tuple [.int i, .int j])))) (hg : Gl X x := by rfl) (hn : x ≠ "__name__" := by decide) (hdb : (x == ("__debug__" : Str)) = false := by decide)
    (hs : starEach [a] X.env = (false, eval a X.env) :: starEach [] X.env := by rfl) (hpl : (backTo pos (starEach [] X.env)).any (·.1) = false := by rfl) : PE X (.Call (.Name x p) [a] [] pos) (tD (zx X M) Γ (fun y => y = .d (.int (max i j)))) :=
  x_cb (cr_max2T hc hr) hm hv (xa_cons ha xa_nil hs) (fun rs e B H vs Q hs hvs q => by
    subst e
    obtain ⟨v, rfl, q1⟩ := vs1 hvs
    obtain ⟨a, ws, rfl, q2, q3⟩ := dpt q1
    have e := dp2 q3
    subst e
    exact ⟨a, i, j, rfl, sqt_mono hs q2, q _ _ B H rfl (Gr.refl hs) (Dp.int _)⟩) hg hn hdb hs hpl
/-! ### gcd -/
theorem x_gcd {i j : Int} (hm : X.mg x = some (.builtin "math.gcd")) (ha : PE X a (tD (zx X M) Γ (fun y => y = .d (.int i)))) (hb : PE X b (tD (zx X M) Γ (fun y => y = .d (.int j)))) (hg : Gl X x := by rfl) (hdb : (x == ("__debug__" : Str)) = false := by decide)
    (hs2 : starEach [b] X.env = (false, eval b X.env) :: starEach [] X.env := by rfl) (hs : starEach [a, b] X.env = (false, eval a X.env) :: starEach [b] X.env := by rfl) (hpl : (backTo pos (starEach [b] X.env)).any (·.1) = false := by rfl) : PE X (.Call (.Name x p) [a, b] [] pos) (tD (zx X M) Γ (fun y => y = .d (.int ((Nat.gcd i.natAbs j.natAbs : Nat) : Int)))) :=
  pe_imp (pe_callBfun cr_gcd hg hm (xa_cons ha (xa_cons hb xa_nil hs2) hs) hdb hs hpl) fun σ H Q ⟨B0, H0, B, o, q⟩ => ⟨B0, H0, B, o, fun vs rs B1 H1 hrs g1 o1 hvs => by
    subst hrs
    obtain ⟨u, v, rfl, h1, h2⟩ := vs2 hvs
    obtain rfl := dpi h1
    obtain rfl := dpi h2
    exact ⟨i, j, rfl, q _ _ B1 H1 rfl g1 o1 (Dp.int _)⟩⟩
/-! ### isinstance -/
def tyD : PyData → String
  | .none => "NoneType"
  | .bool _ => "bool"
  | .int _ => "int"
  | .str _ => "str"
  | .list _ => "list"
  | .tuple _ => "tuple"
  | .dict _ => "dict"
theorem tyx_dp {K : PySem.W.Frag} {H : Hp} {v : V} : ∀ {d : PyData}, Dp K H v d → TyX K H v (.type (tyD d))
  | .none, h => by cases h; exact .base .non
  | .bool b, h => by cases h; exact .base (.bl b)
  | .int i, h => by cases h; exact .base (.int i)
  | .str z, h => by cases h; exact .base (.str z)
  | .list ds, h => by
    obtain ⟨a, vs, rfl, h1, h2⟩ := dpl h
    rcases h1 with (h1 | ⟨o, h1⟩) | ⟨o, its, n, h1, h2, _⟩
    · exact .base (.lst h1)
    · exact .base (.frz h1)
    · exact .kList h1 h2
  | .tuple ds, h => by
    obtain ⟨a, vs, rfl, h1, h2⟩ := dpt h
    rcases h1 with (h1 | ⟨o, h1⟩) | ⟨o, its, n, h1, h2, _⟩
    · exact .base (.tup h1)
    · exact .fTuple h1
    · exact .kTuple h1 h2
  | .dict _, h => by cases h
theorem c_ty {T : String} {y : Str} {q : Pos} (hm : X.mg y = none) (hv : bootBuiltins y = some (.type T)) (hg : Gl X y := by rfl) (hn : y ≠ "__name__" := by decide) (hdb : (y == ("__debug__" : Str)) = false := by decide) : PE X (.Name y q) (tC (.ty T)) := pe_bltn hg hm hv rfl hn hdb
theorem x_isi {y : PyData} {r : Bool} (hm : X.mg x = none) (ha : PE X a (tD (zx X M) Γ (fun z => z = .d y))) (hb : PE X b (tC (.ty T))) (hk : kitB (tyD y) T = some r) (hv : bootBuiltins x = some (.builtin "isinstance")) (hg : Gl X x := by rfl) (hn : x ≠ "__name__" := by decide) (hdb : (x == ("__debug__" : Str)) = false := by decide)
    (hs2 : starEach [b] X.env = (false, eval b X.env) :: starEach [] X.env := by rfl) (hs : starEach [a, b] X.env = (false, eval a X.env) :: starEach [b] X.env := by rfl) (hpl : (backTo pos (starEach [b] X.env)).any (·.1) = false := by rfl) : PE X (.Call (.Name x p) [a, b] [] pos) (tD (zx X M) Γ (fun z => z = .d (.bool r))) :=
  pe_imp (pe_callB call_isi hg hm hv (pa_cons ha (pa_cons hb pa_nil hs2) hs) hn hdb hs hpl) fun σ H Q ⟨B0, H0, B, o, q⟩ => ⟨B0, H0, B, o, fun u z B1 H1 hz g1 o1 hu => by
    subst hz
    exact ⟨u, .ty T, .type (tyD y), .type T, r, rfl, .ty T, tyx_dp (dp_mono o1.bh _ _ hu), kit_ty hk, q _ _ B1 H1 rfl g1 o1 (Dp.bl _)⟩⟩
theorem x_isi2 {T2 : String} {y : PyData} {r1 r2 : Bool} {k : Nat} {p3 : Pos} (hm : X.mg x = none) (ha : PE X a (tD (zx X M) Γ (fun z => z = .d y))) (hb : PE X b (tC (.ty T))) (hc : PE X c (tC (.ty T2))) (hk : kitB (tyD y) T = some r1) (hk2 : kitB (tyD y) T2 = some r2) (hv : bootBuiltins x = some (.builtin "isinstance")) (hg : Gl X x := by rfl) (hn : x ≠ "__name__" := by decide) (hdb : (x == ("__debug__" : Str)) = false := by decide)
    (hs4 : starEach [c] X.env = (false, eval c X.env) :: starEach [] X.env := by rfl) (hs3 : starEach [b, c] X.env = (false, eval b X.env) :: starEach [c] X.env := by rfl) (hs2 : starEach [.Tuple [b, c] k p3] X.env = (false, eval (.Tuple [b, c] k p3) X.env) :: starEach [] X.env := by rfl) (hs : starEach [a, .Tuple [b, c] k p3] X.env = (false, eval a X.env) :: starEach [.Tuple [b, c] k p3] X.env := by rfl) (hpl : (backTo pos (starEach [.Tuple [b, c] k p3] X.env)).any (·.1) = false := by rfl) : PE X (.Call (.Name x p) [a, .Tuple [b, c] k p3] [] pos) (tD (zx X M) Γ (fun z => z = .d (.bool (r1 || r2)))) :=
  pe_imp (pe_callB call_isiT hg hm hv (pa_cons ha (pa_cons (pe_tup (pa_cons hb (pa_cons hc pa_nil hs4) hs3)) pa_nil hs2) hs) hn hdb hs hpl) fun σ H Q ⟨B0, H0, B, o, q⟩ => ⟨B0, H0, B, o, fun u z B1 H1 hz g1 o1 hu => by
    subst hz
    refine ⟨Nat.le_of_lt (small1000 (by decide : 2 ≤ 1000)), fun t ht => ?_⟩
    have g := Gr.new o1.bh (o := .tup [.ty T, .ty T2]) ht
    refine ⟨u, t, [.ty T, .ty T2], .type (tyD y), [.type T, .type T2], r1 || r2, rfl, upd_same, .cons (.ty T) (.cons (.ty T2) .nil), tyx_dp (dp_mono ((o1.bh).trans g.same) _ _ hu), ?_, q _ _ _ _ rfl (g1.trans g.lift) (o1.grow g) (Dp.bl _)⟩
    exact kitAny_cons (kit_ty hk) (fun e => by
      rw [e, Bool.false_or]
      exact kitAny_cons (kit_ty hk2) (fun e => by rw [e]; exact kitAny_nil) fun e => e) fun e => by rw [e]; rfl⟩
/-- isinstance of an own instance and an own class -/
structure InsK (K : PySem.W.Frag) (C : Addr) : Prop where
  cl : Cls K C
  ha : PySem.W.findIn K (.ref C) "__class__" = some (some (.builtin "object.__class__"))
  hn : PySem.W.specialIn K (.builtin "object.__class__") "__get__" = some (some (.builtin "getset_descriptor.__get__"))
  ht : PySem.W.takesIn K (.builtin "object.__class__") = some true
  hm : PySem.W.mroIn K C (.type "object") = some true
theorem x_isiC {C D : Addr} {fs : List (Str × PyData)} {y : Str} {p3 : Pos} {r : Bool} (hm : X.mg x = none) (hv : bootBuiltins x = some (.builtin "isinstance")) (hC : InsK X.K C) (hD : X.mg y = some (.ref D)) (hk : PySem.W.kitOne X.K (.ref C) (.ref D) = some r) (ha : PE X a (tD (zx X M) Γ (fun z => z = .ob C fs))) (hg : Gl X x := by rfl) (hgy : Gl X y := by rfl) (hdy : (y == ("__debug__" : Str)) = false := by decide) (hn : x ≠ "__name__" := by decide) (hdb : (x == ("__debug__" : Str)) = false := by decide)
    (hs2 : starEach [.Name y p3] X.env = (false, eval (.Name y p3) X.env) :: starEach [] X.env := by rfl) (hs : starEach [a, .Name y p3] X.env = (false, eval a X.env) :: starEach [.Name y p3] X.env := by rfl) (hpl : (backTo pos (starEach [.Name y p3] X.env)).any (·.1) = false := by rfl) : PE X (.Call (.Name x p) [a, .Name y p3] [] pos) (tD (zx X M) Γ (fun z => z = .d (.bool r))) :=
  pe_imp (pe_callB call_isi hg hm hv (pa_cons ha (pa_cons (pe_glob hgy hD (v := .ref D) rfl hdy) pa_nil hs2) hs) hn hdb hs hpl) fun σ H Q ⟨B0, H0, B, o, q⟩ => ⟨B0, H0, B, o, fun u z B1 H1 hz g1 o1 hu => by
    subst hz
    obtain ⟨a, dx, vs, rfl, h1, h2, h3⟩ := hu
    exact ⟨.ref a, .ref D, .ref C, .ref D, r, rfl, .own D, .base (.ins (o1.bh _ _ h1) hC.cl hC.ha hC.hn hC.ht hC.hm), hk, q _ _ B1 H1 rfl g1 o1 (Dp.bl _)⟩⟩
end
end K27
set_option maxHeartbeats 4000000
/-! What a statement does to the data. -/
namespace K27
open PySem PySem.Spec PyProof.Rows L2

inductive O where
  | nx (Γ : Gm)
  | rt (r : VD)
  | bk (Γ : Gm)
  | ct (Γ : Gm)
  | ex (C : Addr) (f : Str) (x : PyData)
/-- what is wanted behind, by the outcomes P -/
structure Cn (Z : Zt) (E : XK) (B0 H0 S : Hp) (D : Ends) (P : O → Prop) : Prop where
  nx : ∀ Γ σ B H, P (.nx Γ) → Ok Z B0 H0 B H σ Γ → Same S B → D.nx σ H
  rt : ∀ r v B H, P (.rt r) → Gr Z.M B0 H0 B H → HandM Z B H → VOk Z B v r → D.rt v H
  bk : ∀ Γ σ B H, P (.bk Γ) → Ok Z B0 H0 B H σ Γ → Same S B → D.bk σ H
  ct : ∀ Γ σ B H, P (.ct Γ) → Ok Z B0 H0 B H σ Γ → Same S B → D.ct σ H
  ex : ∀ C f x v d B H, P (.ex C f x) → Gr Z.M B0 H0 B H → HandM Z B H → H d = some (.xd [(f, v)]) → Dp Z.K B v x → E (.ref C) (some d) H
def tO (Z : Zt) (E : XK) (Γ : Gm) (P : O → Prop) : TS := fun D σ H => ∃ B0 H0 B, Ok Z B0 H0 B H σ Γ ∧ Cn Z E B0 H0 B D P
theorem Cn.later {Z : Zt} {E : XK} {B0 H0 S S' : Hp} {D : Ends} {P : O → Prop} (k : Cn Z E B0 H0 S D P) (h : Same S S') : Cn Z E B0 H0 S' D P :=
  ⟨fun G s b h' q o sm => k.nx G s b h' q o (h.trans sm), k.rt, fun G s b h' q o sm => k.bk G s b h' q o (h.trans sm), fun G s b h' q o sm => k.ct G s b h' q o (h.trans sm), k.ex⟩
/-- a block, then the rest -/
def thenR (X : Cx) (Z : Zt) (E : XK) (rest : List Stmt) (P : O → Prop) : O → Prop
  | .nx Γ => PSs X rest (tO Z E Γ P)
  | o => P o
section
variable {X : Cx} {M : Option Addr} {E : XK} {Γ : Gm} {P : O → Prop} {e : Expr} {st : Stmt} {sts rest : List Stmt} {pos p p2 : Pos} {x : Str}
theorem s_mono {P' : O → Prop} (h : PSs X sts (tO (zx X M) E Γ P')) (hp : ∀ o, P' o → P o) : PSs X sts (tO (zx X M) E Γ P) :=
  pss_imp h fun D σ H ⟨B0, H0, B, o, k⟩ => ⟨B0, H0, B, o, fun G s b h q => k.nx G s b h (hp _ q), fun r v b h q => k.rt r v b h (hp _ q), fun G s b h q => k.bk G s b h (hp _ q), fun G s b h q => k.ct G s b h (hp _ q), fun C f x v d b h q => k.ex C f x v d b h (hp _ q)⟩
theorem s_cons (h : PS X st (tO (zx X M) E Γ (thenR X (zx X M) E rest P))) : PSs X (st :: rest) (tO (zx X M) E Γ P) := by
  have h2 : PSs X rest (fun D σ H => ∃ Γ', PSs X rest (tO (zx X M) E Γ' P) ∧ tO (zx X M) E Γ' P D σ H) := ⟨fun pins s σ H D I ⟨Γ', h2, q⟩ => h2.run pins s σ H D I q⟩
  exact pss_imp (pss_cons h h2) fun D σ H ⟨B0, H0, B, o, k⟩ => ⟨B0, H0, B, o, fun G s b h q o' sm => ⟨G, q, B0, H0, b, o', k.later sm⟩, fun r v b h q => k.rt r v b h q, fun G s b h q => k.bk G s b h q, fun G s b h q => k.ct G s b h q, fun C f x v d b h q => k.ex C f x v d b h q⟩
theorem s_one (h : PS X st (tO (zx X M) E Γ P)) : PSs X [st] (tO (zx X M) E Γ P) := pss_one h
theorem s_nil (h : P (.nx Γ)) : PSs X [] (tO (zx X M) E Γ P) := pss_imp pss_nil fun D σ H ⟨B0, H0, B, o, k⟩ => k.nx Γ σ B H h o (Same.refl B)
theorem s_pass (h : P (.nx Γ)) : PS X (.Pass pos) (tO (zx X M) E Γ P) := ps_imp ps_pass fun D σ H ⟨B0, H0, B, o, k⟩ => k.nx Γ σ B H h o (Same.refl B)
theorem s_break (h : P (.bk Γ)) : PS X (.Break pos) (tO (zx X M) E Γ P) := ps_imp ps_break fun D σ H ⟨B0, H0, B, o, k⟩ => k.bk Γ σ B H h o (Same.refl B)
theorem s_asgR {i : Nat} {R : VD → Prop} (hN : X.N.Nodup) (he : PE X e (tD (zx X M) Γ R)) (h : ∀ r, R r → P (.nx (Γ.set i (some (.v r))))) (hl : i < Γ.length := by exact Nat.le_of_ble_eq_true rfl) (hi : X.N[i]? = some x := by rfl) (hx : Loc X.env.scope x := by first | exact Or.inl rfl | exact Or.inr rfl)
    (hs : swapsWith e (some (.Name x p)) pos.line X.env = pure false := by rfl) (hf : X.fn x = true ∨ X.env.scope.names.lookup x = some .local := by first | exact .inl rfl | exact .inr rfl) : PS X (.Assign [.Name x p] e pos) (tO (zx X M) E Γ P) :=
  ps_imp (ps_set hN hi hx he hs hf) fun D σ H ⟨B0, H0, B, o, k⟩ => ⟨B0, H0, B, o, fun v r B1 H1 hr g1 o1 hv => k.nx _ _ B1 H1 (h r hr) (o1.set hl hv) g1.bb⟩
theorem s_asg (i : Nat) {r : VD} (hN : X.N.Nodup) (he : PE X e (tD (zx X M) Γ (fun y => y = r))) (h : P (.nx (Γ.set i (some (.v r))))) (hl : i < Γ.length := by exact Nat.le_of_ble_eq_true rfl) (hi : X.N[i]? = some x := by rfl) (hx : Loc X.env.scope x := by first | exact Or.inl rfl | exact Or.inr rfl)
    (hs : swapsWith e (some (.Name x p)) pos.line X.env = pure false := by rfl) (hf : X.fn x = true ∨ X.env.scope.names.lookup x = some .local := by first | exact .inl rfl | exact .inr rfl) : PS X (.Assign [.Name x p] e pos) (tO (zx X M) E Γ P) :=
  s_asgR hN he (fun r e => by rw [e]; exact h) hl hi hx hs hf
/-- x = a new list of one's own -/
theorem s_asgN (i : Nat) {R : List PyData → Prop} (hN : X.N.Nodup) (he : PE X e (tN (zx X M) Γ R)) (h : ∀ ds, R ds → P (.nx (Γ.set i (some (.mu ds))))) (hl : i < Γ.length := by exact Nat.le_of_ble_eq_true rfl) (hi : X.N[i]? = some x := by rfl) (hx : Loc X.env.scope x := by first | exact Or.inl rfl | exact Or.inr rfl)
    (hs : swapsWith e (some (.Name x p)) pos.line X.env = pure false := by rfl) (hf : X.fn x = true ∨ X.env.scope.names.lookup x = some .local := by first | exact .inl rfl | exact .inr rfl) : PS X (.Assign [.Name x p] e pos) (tO (zx X M) E Γ P) :=
  ps_imp (ps_set hN hi hx he hs hf) fun D σ H ⟨B0, H0, B, o, k⟩ => ⟨B0, H0, B, o, fun l vs ds B1 H1 hd g1 o1 hl1 hb hm hH hvs => by
    have h0 : H0 l = none := by
      cases q : H0 l with
      | none => rfl
      | some w => exact absurd hl1 (o.gr.al l (by rw [q]; simp))
    refine k.nx _ _ B1 H1 (h ds hd) (o1.setOwn hl ⟨l, vs, rfl, h0, hb, hm, hH, hvs⟩ fun j t e1 e2 e3 => ?_) g1.bb
    exact absurd hl1 (o.ownKnown e1 e2 e3).1⟩
/-- an own list stands from now on -/
theorem s_freeze (i : Nat) {ds : List PyData} (h : PSs X sts (tO (zx X M) E (Γ.set i (some (.v (.d (.list ds))))) P)) (hG : Γ[i]? = some (some (.mu ds)) := by rfl) : PSs X sts (tO (zx X M) E Γ P) :=
  pss_imp h fun D σ H ⟨B0, H0, B, o, k⟩ => by
    obtain ⟨l, vs, h1, h2, h3, h4, o2⟩ := o.freeze hG
    exact ⟨B0, H0, _, o2, k.later fun a w z => by rw [upd_ne (ne_of_none z h2)]; exact z⟩
theorem s_freeze1 (i : Nat) {ds : List PyData} (h : PS X st (tO (zx X M) E (Γ.set i (some (.v (.d (.list ds))))) P)) (hG : Γ[i]? = some (some (.mu ds)) := by rfl) : PS X st (tO (zx X M) E Γ P) :=
  ps_imp h fun D σ H ⟨B0, H0, B, o, k⟩ => by
    obtain ⟨l, vs, h1, h2, h3, h4, o2⟩ := o.freeze hG
    exact ⟨B0, H0, _, o2, k.later fun a w z => by rw [upd_ne (ne_of_none z h2)]; exact z⟩
/-- an int reckoned from an own list that stands meanwhile -/
theorem x_frz (i : Nat) {ds : List PyData} {n : Int} (h : PE X e (tD (zx X none) (Γ.set i (some (.v (.d (.list ds))))) (fun y => y = .d (.int n)))) (hG : Γ[i]? = some (some (.mu ds)) := by rfl) : PE X e (tD (zx X none) Γ (fun y => y = .d (.int n))) :=
  pe_imp h fun σ H Q ⟨B0, H0, B, o, k⟩ => by
    obtain ⟨l, vs, h1, h2, h3, h4, o2⟩ := o.freeze hG
    refine ⟨B0, H0, _, o2, fun v r B1 H1 hr g1 o1 hv => ?_⟩
    subst hr
    have g : Gr none B H (fun a => if a = l then none else B1 a) H1 := ⟨fun a w z => by
        have ha : a ≠ l := ne_of_none z h2
        show (if a = l then none else B1 a) = some w
        rw [if_neg ha]
        exact g1.bb a w (by rw [upd_ne ha]; exact z), fun a w z => by
        have z : (if a = l then none else B1 a) = some w := z
        by_cases ha : a = l
        · rw [if_pos ha] at z
          cases z
        · rw [if_neg ha] at z
          exact o1.bh a w z, g1.hh, fun a z => by
        have z : (if a = l then none else B1 a) ≠ none := z
        by_cases ha : a = l
        · rw [if_pos ha] at z
          exact absurd rfl z
        · rw [if_neg ha] at z
          rcases g1.nw a z with q | q
          · rw [upd_ne ha] at q
            exact .inl q
          · exact .inr q, g1.al⟩
    rw [dpi hv]
    exact k _ _ _ H1 rfl g (o.grow g) (Dp.int n)
theorem s_ret {r : VD} (he : PE X e (tD (zx X M) Γ (fun y => y = r))) (h : P (.rt r)) : PS X (.Return (some e) pos) (tO (zx X M) E Γ P) :=
  ps_imp (ps_ret he) fun D σ H ⟨B0, H0, B, o, k⟩ => ⟨B0, H0, B, o, fun v r' B1 H1 hr g1 o1 hv => by
    subst hr
    exact k.rt _ v B1 H1 h o1.gr o1.hand hv⟩
theorem s_retR {R : VD → Prop} (he : PE X e (tD (zx X M) Γ R)) (h : ∀ r, R r → P (.rt r)) : PS X (.Return (some e) pos) (tO (zx X M) E Γ P) :=
  ps_imp (ps_ret he) fun D σ H ⟨B0, H0, B, o, k⟩ => ⟨B0, H0, B, o, fun v r' B1 H1 hr g1 o1 hv => k.rt _ v B1 H1 (h _ hr) o1.gr o1.hand hv⟩
theorem s_expr {R : VD → Prop} (he : PE X e (tD (zx X M) Γ R)) (h : P (.nx Γ)) (hs : swapsWith e none pos.line X.env = pure false := by rfl) : PS X (.Expr e pos) (tO (zx X M) E Γ P) :=
  ps_imp (ps_expr he hs) fun D σ H ⟨B0, H0, B, o, k⟩ => ⟨B0, H0, B, o, fun v r' B1 H1 hr g1 o1 hv => k.nx Γ σ B1 H1 h o1 g1.bb⟩
theorem s_never (h : False) : PS X st (tO (zx X M) E Γ P) := h.elim
open Classical in
theorem s_if {Rc : Bool → Prop} {c : Expr} {a b : List Stmt} (hc : PT X c (tDT (zx X M) Γ Rc)) (ha : Rc true → PSs X a (tO (zx X M) E Γ P)) (hb : Rc false → PSs X b (tO (zx X M) E Γ P)) : PS X (.If c a b pos) (tO (zx X M) E Γ P) := by
  have key : ∀ {e : List Stmt} {k : Bool}, (Rc k → PSs X e (tO (zx X M) E Γ P)) → ∃ t : TS, PSs X e t ∧ (Rc k → t = tO (zx X M) E Γ P) := fun {e k} h => by
    by_cases q : Rc k
    · exact ⟨_, h q, fun _ => rfl⟩
    · exact ⟨tNever, pss_never, fun z => absurd z q⟩
  obtain ⟨ta, pa, ea⟩ := key ha
  obtain ⟨tb, pb, eb⟩ := key hb
  exact ps_imp (ps_if hc pa pb) fun D σ H ⟨B0, H0, B, o, q⟩ => ⟨B0, H0, B, o, fun d B1 H1 hd g1 o1 => by
    cases d with
    | true =>
      refine iteT ?_
      rw [ea hd]
      exact ⟨B0, H0, B1, o1, q.later g1.bb⟩
    | false =>
      refine iteF ?_
      rw [eb hd]
      exact ⟨B0, H0, B1, o1, q.later g1.bb⟩⟩
/-! ### several targets -/
def gNs : List Nat → TGs
  | [] => gNil
  | i :: is => gCons (gName i) (gNs is)
def setAll : Gm → List Nat → List PyData → Gm
  | Γ, i :: is, d :: ds => setAll (Γ.set i (some (.v (.d d)))) is ds
  | Γ, _, _ => Γ
theorem gNs_ok {Z : Zt} {B0 H0 B H : Hp} {Q : L2.St → Hp → Prop} : ∀ {is : List Nat} {vs : List V} {ds : List PyData} {σ : L2.St} {Γ : Gm}, Ok Z B0 H0 B H σ Γ → (∀ i ∈ is, i < Γ.length) → vs.length = is.length → DpAll Z.K B vs ds → (∀ σ', Ok Z B0 H0 B H σ' (setAll Γ is ds) → Q σ' H) → gNs is vs σ H Q
  | [], [], _, σ, Γ, o, _, _, h, k => by
    cases h
    exact ⟨rfl, k σ o⟩
  | [], _ :: _, _, _, _, _, _, e, _, _ => by cases e
  | _ :: _, [], _, _, _, _, _, e, _, _ => by cases e
  | i :: is, v :: vs, _, σ, Γ, o, hl, e, h, k => by
    cases h with
    | cons h1 h2 =>
      refine ⟨v, vs, rfl, ?_⟩
      exact gNs_ok (o.set (hl i List.mem_cons_self) (r := .d _) h1) (fun j hj => by rw [List.length_set]; exact hl j (List.mem_cons_of_mem _ hj)) (Nat.succ.inj e) h2 k
theorem s_unpack (is : List Nat) {ts : List Expr} {k1 : Nat} {ds : List PyData} (hc : X.calm = true) (he : PE X e (tD (zx X M) Γ (fun y => y = .d (.tuple ds)))) (hg : PGs X ts (gNs is)) (h : P (.nx (setAll Γ is ds))) (hl : (is.all fun i => Nat.blt i Γ.length) = true := by rfl) (hd : ds.length = is.length := by rfl)
    (hn : (assignEach ts X.env).length = is.length := by rfl) (hst : (assignEach ts X.env).findIdx? (·.1) = none := by rfl) (hs : swapsWithSole [.Tuple ts k1 p] e pos.line X.env = pure false := by rfl) (hw : swappedStores [.Tuple ts k1 p] e X.env = pure none := by rfl)
    (h1 : (assignEach [.Tuple ts k1 p] X.env).map (·.2) = [assign (.Tuple ts k1 p) X.env] := by rfl) : PS X (.Assign [.Tuple ts k1 p] e pos) (tO (zx X M) E Γ P) :=
  ps_imp (ps_asg he (pg_tup hc hg hn hst) hs hw h1) fun D σ H ⟨B0, H0, B, o, k⟩ => ⟨B0, H0, B, o, fun v r B1 H1 hr g1 o1 hv => by
    subst hr
    obtain ⟨a, vs, rfl, q1, q2⟩ := dpt hv
    have lv := (dpall_len q2).trans hd
    exact ⟨a, vs, rfl, sqt_mono o1.bh q1, lv, gNs_ok o1 (fun i hi => by rw [← o1.len, (show σ.length = Γ.length from o1.len)]; exact Nat.le_of_ble_eq_true (List.all_eq_true.mp hl i hi)) lv q2 fun σ' o' => k.nx _ σ' B1 H1 h o' g1.bb⟩⟩
theorem s_unpackL (is : List Nat) {ts : List Expr} {k1 : Nat} {ds : List PyData} (hc : X.calm = true) (he : PE X e (tD (zx X M) Γ (fun y => y = .d (.list ds)))) (hg : PGs X ts (gNs is)) (h : P (.nx (setAll Γ is ds))) (hl : (is.all fun i => Nat.blt i Γ.length) = true := by rfl) (hd : ds.length = is.length := by rfl)
    (hn : (assignEach ts X.env).length = is.length := by rfl) (hst : (assignEach ts X.env).findIdx? (·.1) = none := by rfl) (hs : swapsWithSole [.Tuple ts k1 p] e pos.line X.env = pure false := by rfl) (hw : swappedStores [.Tuple ts k1 p] e X.env = pure none := by rfl)
    (h1 : (assignEach [.Tuple ts k1 p] X.env).map (·.2) = [assign (.Tuple ts k1 p) X.env] := by rfl) : PS X (.Assign [.Tuple ts k1 p] e pos) (tO (zx X M) E Γ P) :=
  ps_imp (ps_asg he (pg_lst hc hg hn hst) hs hw h1) fun D σ H ⟨B0, H0, B, o, k⟩ => ⟨B0, H0, B, o, fun v r B1 H1 hr g1 o1 hv => by
    subst hr
    obtain ⟨a, vs, rfl, q1, q2⟩ := dpl hv
    have lv := (dpall_len q2).trans hd
    exact ⟨a, vs, rfl, o1.bh.seq q1, lv, gNs_ok o1 (fun i hi => by rw [← o1.len, (show σ.length = Γ.length from o1.len)]; exact Nat.le_of_ble_eq_true (List.all_eq_true.mp hl i hi)) lv q2 fun σ' o' => k.nx _ σ' B1 H1 h o' g1.bb⟩⟩
/-! ### own lists written -/
theorem v_mu {Z : Zt} {B0 H0 B H : Hp} {σ : L2.St} {i : Nat} {ds : List PyData} (o : Ok Z B0 H0 B H σ Γ) (hG : Γ[i]? = some (some (.mu ds))) : ∃ l vs, σ[i]? = some (some (.ref l)) ∧ H l = some (.lst vs) ∧ DpAll Z.K B vs ds ∧ (∀ (ws : List V) (es : List PyData), DpAll Z.K B ws es → Ok Z B0 H0 B (upd H l (.lst ws)) σ (Γ.set i (some (.mu es)))) := by
  obtain ⟨x, hx, l, vs, rfl, h0, hb, hm, hl, hd⟩ := o.sl i _ hG
  exact ⟨l, vs, hx, hl, hd, fun ws es hw => o.write hG rfl hx rfl ⟨l, ws, rfl, h0, hb, hm, upd_same, hw⟩⟩
/-- xs[i] = e, xs an own list in the j-th name -/
theorem s_setI (j : Nat) {y : PyData} {ds : List PyData} {n : Int} {m : Nat} {ie : Expr} {q : Pos} (he : PE X e (tD (zx X M) Γ (fun r => r = .d y))) (hi : PE X ie (tD (zx X M) Γ (fun r => r = .d (.int n)))) (hm : ixN ds.length n = some m) (h : P (.nx (Γ.set j (some (.mu (ds.set m y)))))) (hG : Γ[j]? = some (some (.mu ds)) := by rfl)
    (hN : X.N[j]? = some x := by rfl) (hv : Vis X.env.scope x := by first | exact Or.inl rfl | exact Or.inr (Or.inl rfl) | exact Or.inr (Or.inr rfl)) (hd : (x == ("__debug__" : Str)) = false := by decide) (hcd : (x == ("__classdict__" : Str)) = false := by decide)
    (ha : ∀ v, assign (.Subscript (.Name x q) ie p) X.env v = (do
      let ov ← holding [v] (eval (.Name x q) X.env)
      let iv ← holding [v, ov] (eval ie X.env)
      standAt p
      holding [v, ov, iv] (setItem ov iv v)
      release [v, ov, iv] []) := by intro _; rfl)
    (hs : swapsWithSole [.Subscript (.Name x q) ie p] e pos.line X.env = pure false := by rfl) (hw : swappedStores [.Subscript (.Name x q) ie p] e X.env = pure none := by rfl)
    (h1 : (assignEach [.Subscript (.Name x q) ie p] X.env).map (·.2) = [assign (.Subscript (.Name x q) ie p) X.env] := by rfl) : PS X (.Assign [.Subscript (.Name x q) ie p] e pos) (tO (zx X M) E Γ P) :=
  ps_imp (ps_asg he (pg_sub (pv j hN hv hd hcd) hi set_list ha) hs hw h1) fun D σ H ⟨B0, H0, B, o, k⟩ => ⟨B0, H0, B, o, fun v r B1 H1 hr g1 o1 hv => by
    subst hr
    obtain ⟨l, vs, q1, _, _, _⟩ := v_mu o1 hG
    refine ⟨.ref l, q1, B0, H0, B1, o1, fun w r B2 H2 hr g2 o2 hw => ?_⟩
    subst hr
    obtain ⟨l2, vs, p1, p2, p3, p4⟩ := v_mu o2 hG
    rw [q1] at p1
    have e1 := V.ref.inj (Option.some.inj (Option.some.inj p1))
    subst e1
    exact ⟨l, vs, n, m, rfl, dpi hw, p2, by rw [dpall_len p3]; exact hm, k.nx _ σ B2 _ h (p4 _ _ (dpall_set (dp_mono g2.bb _ _ hv) m p3)) (g1.bb.trans g2.bb)⟩⟩
/-- xs.append(e) -/
theorem s_append (j : Nat) {y : PyData} {ds : List PyData} {q : Pos} (he : PE X e (tD (zx X M) Γ (fun r => r = .d y))) (hz : ds.length < 100000) (h : P (.nx (Γ.set j (some (.mu (ds ++ [y])))))) (hG : Γ[j]? = some (some (.mu ds)) := by rfl)
    (hN : X.N[j]? = some x := by rfl) (hv : Vis X.env.scope x := by first | exact Or.inl rfl | exact Or.inr (Or.inl rfl) | exact Or.inr (Or.inr rfl)) (hd : (x == ("__debug__" : Str)) = false := by decide) (hcd : (x == ("__classdict__" : Str)) = false := by decide)
    (hes : starEach [e] X.env = (false, eval e X.env) :: starEach [] X.env := by rfl) (hbase : attributeBase (.Name x q) "append" X.env (eval (.Name x q) X.env) = eval (.Name x q) X.env := by rfl)
    (hfew : ((backTo p2 (starEach [e] X.env)).all (fun x => !x.1) && (backToKw p2 (keywordEach [] X.env)).all (fun x => x.1.isSome) && decide ([e].length + ([] : List Keyword).length + (if ([] : List Keyword).isEmpty then 0 else 1) < 30)) = true := by rfl)
    (hline : (p.endLine == p2.line) = true := by rfl) (hplain : (backTo p2 (starEach [] X.env)).any (·.1) = false := by rfl)
    (hs : swapsWith (.Call (.Attribute (.Name x q) "append" p) [e] [] p2) none pos.line X.env = pure false := by rfl) : PS X (.Expr (.Call (.Attribute (.Name x q) "append" p) [e] [] p2) pos) (tO (zx X M) E Γ P) :=
  ps_imp (ps_expr (pe_bm PySem.F.plainAttrs_list PySem.F.slot_list_append PySem.F.type_list_append mt_append (pv j hN hv hd hcd) (pa_cons he pa_nil hes) hbase hfew hline hes hplain) hs) fun D σ H ⟨B0, H0, B, o, k⟩ => by
    obtain ⟨l, vs, q1, q2, _, _⟩ := v_mu o hG
    refine ⟨.ref l, q1, .inl ⟨rfl, _, .inl (.inl q2)⟩, B0, H0, B, o, fun v r B1 H1 hr g1 o1 hv => ?_⟩
    subst hr
    obtain ⟨l2, vs, p1, p2, p3, p4⟩ := v_mu o1 hG
    rw [q1] at p1
    have e1 := V.ref.inj (Option.some.inj (Option.some.inj p1))
    subst e1
    refine ⟨l, vs, v, rfl, rfl, p2, ?_, k.nx _ σ B1 _ h (p4 _ _ (dpall_app p3 (.cons hv .nil))) g1.bb⟩
    rw [dpall_len p3]
    exact Nat.lt_of_lt_of_le hz (by decide)
end
end K27
set_option maxHeartbeats 4000000
/-! Loops, comprehensions, whole defs. -/
namespace K27
open PySem PySem.Spec PyProof.Rows L2

/-- what a loop walks: n things -/
structure Turns (Z : Zt) (B1 : Hp) (J : It) (n : Nat) (it : Nat → VD) : Prop where
  go : ∀ i H, Same B1 H → i < n → J.go i H
  yld : ∀ i H x H', Same B1 H → i < n → J.yld i H x H' → H' = H ∧ VOk Z B1 x (it i)
  stop : ∀ H, Same B1 H → J.stop n H
def Wlk (Z : Zt) (Γ : Gm) (wi : TI) (n : Nat) (it : Nat → VD) : Prop := ∀ σ H R, (∃ B0 H0 B, Ok Z B0 H0 B H σ Γ ∧ ∀ J B1 H1, Gr Z.M B H B1 H1 → Ok Z B0 H0 B1 H1 σ Γ → Turns Z B1 J n it → R J H1) → wi σ H R
section
variable {X : Cx} {M : Option Addr} {E : XK} {Γ : Gm} {P : O → Prop} {e : Expr} {te : TE} {body : List Stmt} {pos p p2 : Pos} {x : Str}
theorem turns_tup {Z : Zt} {B1 : Hp} {a : Addr} {vs : List V} {ds : List PyData} (h : SqT Z.K B1 a vs) (hd : DpAll Z.K B1 vs ds) : Turns Z B1 (Itt Z.K a) ds.length (fun i => .d (ds.getD i .none)) where
  go := fun i H hs hi => by
    have hv : i < vs.length := by rw [dpall_len hd]; exact hi
    exact ⟨vs, vs[i], sqt_mono hs h, List.getElem?_eq_getElem hv⟩
  yld := fun i H v H' hs hi y => by
    obtain ⟨e1, y⟩ := y
    have q := y vs (sqt_mono hs h)
    obtain ⟨v', q1, q2⟩ := dpall_get (i := i) hd (List.getElem?_eq_getElem hi)
    rw [q] at q1
    have e2 := Option.some.inj q1
    subst e2
    refine ⟨e1, ?_⟩
    show Dp Z.K B1 v (ds.getD i .none)
    rw [List.getD_eq_getElem?_getD, List.getElem?_eq_getElem hi]
    exact q2
  stop := fun H hs => ⟨vs, sqt_mono hs h, by rw [dpall_len hd]; exact Nat.le_refl _⟩
theorem turns_lst {Z : Zt} {B1 : Hp} {a : Addr} {vs : List V} {ds : List PyData} (h : SqL Z.K B1 a vs) (hd : DpAll Z.K B1 vs ds) : Turns Z B1 (Itl Z.K a) ds.length (fun i => .d (ds.getD i .none)) where
  go := fun i H hs hi => by
    have hv : i < vs.length := by rw [dpall_len hd]; exact hi
    exact ⟨vs, vs[i], hs.seq h, List.getElem?_eq_getElem hv⟩
  yld := fun i H v H' hs hi y => by
    obtain ⟨e1, y⟩ := y
    have q := y vs (hs.seq h)
    obtain ⟨v', q1, q2⟩ := dpall_get (i := i) hd (List.getElem?_eq_getElem hi)
    rw [q] at q1
    have e2 := Option.some.inj q1
    subst e2
    refine ⟨e1, ?_⟩
    show Dp Z.K B1 v (ds.getD i .none)
    rw [List.getD_eq_getElem?_getD, List.getElem?_eq_getElem hi]
    exact q2
  stop := fun H hs => ⟨vs, hs.seq h, by rw [dpall_len hd]; exact Nat.le_refl _⟩
theorem wlk_tup {Z : Zt} {ds : List PyData} : Wlk Z Γ (iTup Z.K (tD Z Γ (fun y => y = .d (.tuple ds)))) ds.length (fun i => .d (ds.getD i .none)) := fun σ H R ⟨B0, H0, B, o, k⟩ => ⟨B0, H0, B, o, fun v r B1 H1 hr g1 o1 hv => by
  subst hr
  obtain ⟨a, vs, rfl, q1, q2⟩ := dpt hv
  exact ⟨a, rfl, ⟨vs, sqt_mono o1.bh q1⟩, k _ B1 H1 g1 o1 (turns_tup q1 q2)⟩⟩
theorem wlk_lst {Z : Zt} {ds : List PyData} : Wlk Z Γ (iList Z.K (tD Z Γ (fun y => y = .d (.list ds)))) ds.length (fun i => .d (ds.getD i .none)) := fun σ H R ⟨B0, H0, B, o, k⟩ => ⟨B0, H0, B, o, fun v r B1 H1 hr g1 o1 hv => by
  subst hr
  obtain ⟨a, vs, rfl, q1, q2⟩ := dpl hv
  exact ⟨a, rfl, ⟨vs, o1.bh.seq q1⟩, k _ B1 H1 g1 o1 (turns_lst q1 q2)⟩⟩
theorem turns_rng {Z : Zt} {B1 : Hp} {lo : Int} {n : Nat} : Turns Z B1 (Itr lo n) n (fun i => .d (.int (lo + i))) where
  go := fun i H hs hi => hi
  yld := fun i H v H' hs hi ⟨e1, e2⟩ => ⟨e1, by rw [e2]; exact Dp.int _⟩
  stop := fun H hs => Nat.le_refl n
theorem wlk_rng1 {Z : Zt} {hi : Int} (h : -(2 ^ 62) ≤ hi ∧ hi < 2 ^ 62) : Wlk Z Γ (iRng1 (tDP Z Γ (fun l => l = [.int hi]))) hi.toNat (fun i => .d (.int (0 + i))) := fun σ H R ⟨B0, H0, B, o, k⟩ => ⟨B0, H0, B, o, fun vs rs B1 H1 hr g1 o1 hv => by
  subst hr
  cases hv with
  | cons h1 h2 =>
    cases h2
    rw [dpi h1]
    exact ⟨hi, rfl, h.1, h.2, k _ B1 H1 g1 o1 turns_rng⟩⟩
theorem wlk_rng2 {Z : Zt} {lo hi : Int} (h : -(2 ^ 62) ≤ lo ∧ lo < 2 ^ 62 ∧ -(2 ^ 62) ≤ hi ∧ hi < 2 ^ 62) : Wlk Z Γ (iRng2 (tDP Z Γ (fun l => l = [.int lo, .int hi]))) (hi - lo).toNat (fun i => .d (.int (lo + i))) := fun σ H R ⟨B0, H0, B, o, k⟩ => ⟨B0, H0, B, o, fun vs rs B1 H1 hr g1 o1 hv => by
  subst hr
  rw [dp2 hv]
  exact ⟨lo, hi, rfl, h, k _ B1 H1 g1 o1 turns_rng⟩⟩
/-! ### for -/
def loopP (G : Gm → Prop) (P : O → Prop) : O → Prop
  | .nx Γ => G Γ
  | .ct Γ => G Γ
  | .bk Γ => P (.nx Γ)
  | .rt r => P (.rt r)
  | .ex C f x => P (.ex C f x)
theorem s_for (j : Nat) {n : Nat} {it : Nat → VD} {iter : Expr} {wi : TI} (G : Nat → Gm → Prop) (hp : PassesOwn (model X.prog X.w) X.A X.env X.xe) (hc : X.calm = true) (hw : Wlk (zx X M) Γ wi n it) (hN : X.N.Nodup) (hi : PI X (.Name x p2) iter wi) (hl : ∀ i Γ', G i Γ' → j < Γ'.length)
    (h0 : G 0 Γ) (hs : ∀ i Γ', i < n → G i Γ' → PSs X body (tO (zx X M) E (Γ'.set j (some (.v (it i)))) (loopP (G (i + 1)) P))) (hd : ∀ Γ', G n Γ' → P (.nx Γ')) (hj : X.N[j]? = some x := by rfl) (hx : Loc X.env.scope x := by first | exact Or.inl rfl | exact Or.inr rfl) (hf : X.fn x = true ∨ X.env.scope.names.lookup x = some .local := by first | exact .inl rfl | exact .inr rfl)
    (hfs : ∀ x, foldedSetIterable iter X.env x = pure x := by intro _; rfl) : PS X (.For (.Name x p2) iter body [] pos) (tO (zx X M) E Γ P) := by
  have hb : PSs X body (fun D σ H => ∃ i Γ', i < n ∧ G i Γ' ∧ tO (zx X M) E (Γ'.set j (some (.v (it i)))) (loopP (G (i + 1)) P) D σ H) := ⟨fun pins s σ H D I ⟨i, Γ', h1, h2, q⟩ => (hs i Γ' h1 h2).run pins s σ H D I q⟩
  refine ps_imp (ps_for hp hc hi (pg_name hN hj hx hf) hb hfs) fun D σ H ⟨B0, H0, B, o, k⟩ => hw σ H _ ⟨B0, H0, B, o, fun J B1 H1 g1 o1 T => ?_⟩
  refine ⟨fun i m σ H => m = n - i ∧ i ≤ n ∧ ∃ Γ' B', G i Γ' ∧ Same B1 B' ∧ Ok (zx X M) B0 H0 B' H σ Γ', ⟨n, by simp, Nat.zero_le _, Γ, B1, h0, Same.refl B1, o1⟩, ?_⟩
  rintro i m σ' H' ⟨rfl, hi', Γ', B', hG, sm, o'⟩
  have st : Same B1 H' := sm.trans o'.bh
  by_cases hlt : i < n
  · refine .inr ⟨T.go i H' st hlt, fun σ2 H2 => ∃ Γ2 B2, G (i + 1) Γ2 ∧ Same B1 B2 ∧ Ok (zx X M) B0 H0 B2 H2 σ2 Γ2, fun σ2 H2 ⟨Γ2, B2, q1, q2, q3⟩ => ⟨n - (i + 1), by omega, rfl, hlt, Γ2, B2, q1, q2, q3⟩, fun v H2 y => ?_⟩
    obtain ⟨e1, hv⟩ := T.yld i H' v H2 st hlt y
    subst e1
    refine ⟨i, Γ', hlt, hG, B0, H0, B', o'.set (hl i Γ' hG) (vok_mono sm hv), ⟨fun G2 s b h q o2 s2 => ⟨G2, b, q, sm.trans s2, o2⟩, fun r u b h q => k.rt r u b h q, fun G2 s b h q o2 s2 => k.nx G2 s b h q o2 (g1.bb.trans (sm.trans s2)), fun G2 s b h q o2 s2 => ⟨G2, b, q, sm.trans s2, o2⟩, fun C f z u d b h q => k.ex C f z u d b h q⟩⟩
  · have ei : i = n := by omega
    subst ei
    exact .inl ⟨T.stop H' st, k.nx Γ' σ' B' H' (hd Γ' hG) o' (g1.bb.trans sm)⟩
theorem p_tup {tg l : Expr} {ds : List PyData} (h : PE X l (tD (zx X M) Γ (fun y => y = .d (.tuple ds)))) : PI X tg l (iTup (zx X M).K (tD (zx X M) Γ (fun y => y = .d (.tuple ds)))) := pi_tup h
theorem p_lst {tg l : Expr} {ds : List PyData} (h : PE X l (tD (zx X M) Γ (fun y => y = .d (.list ds)))) : PI X tg l (iList (zx X M).K (tD (zx X M) Γ (fun y => y = .d (.list ds)))) := pi_list h
theorem p_rng1 {a tg : Expr} {i : Int} (hm : X.mg "range" = none) (ha : PE X a (tD (zx X M) Γ (fun y => y = .d (.int i)))) (hg : Gl X "range" := by rfl) (hs : starEach [a] X.env = [(false, eval a X.env)] := by rfl) : PI X tg (.Call (.Name "range" p) [a] [] pos) (iRng1 (tDP (zx X M) Γ (fun l => l = [.int i]))) :=
  pi_range1 hg hm (xp_cons ha xp_nil hs) hs
theorem p_rng2 {a b tg : Expr} {i j : Int} (hm : X.mg "range" = none) (ha : PE X a (tD (zx X M) Γ (fun y => y = .d (.int i)))) (hb : PE X b (tD (zx X M) Γ (fun y => y = .d (.int j)))) (hg : Gl X "range" := by rfl) (hs : starEach [a, b] X.env = [(false, eval a X.env), (false, eval b X.env)] := by rfl) (hs2 : starEach [b] X.env = [(false, eval b X.env)] := by rfl) : PI X tg (.Call (.Name "range" p) [a, b] [] pos) (iRng2 (tDP (zx X M) Γ (fun l => l = [.int i, .int j]))) :=
  pi_range2 hg hm (xp_cons ha (xp_cons hb xp_nil hs2) (by rw [hs, hs2])) hs hs2
/-! ### comprehensions -/
def wipeG (Γ : Gm) : List Nat → Gm
  | [] => Γ
  | v :: vs => (wipeG Γ vs).set v none
theorem wipeG_length (Γ : Gm) : ∀ vs : List Nat, (wipeG Γ vs).length = Γ.length
  | [] => rfl
  | v :: vs => by unfold wipeG; rw [List.length_set, wipeG_length Γ vs]
theorem Ok.wiped {Z : Zt} {B0 H0 B H : Hp} {σ : L2.St} (o : Ok Z B0 H0 B H σ Γ) : ∀ vs : List Nat, Ok Z B0 H0 B H (wipe σ vs) (wipeG Γ vs)
  | [] => o
  | v :: vs => by
    have o' := o.wiped vs
    show Ok Z B0 H0 B H ((wipe σ vs).set v none) ((wipeG Γ vs).set v none)
    refine o'.weak (by rw [List.length_set, List.length_set]; exact o'.len) fun i s e => ?_
    rcases set_at e with ⟨_, q⟩ | ⟨n, q⟩
    · cases q
    · refine ⟨q, ?_⟩
      rw [List.getElem?_set_ne (Ne.symm n)]
/-- the list that is being made -/
structure Mkg (Z : Zt) (B0 H0 B1 : Hp) (σ : L2.St) (Γ : Gm) (D : Addr) (H : Hp) (B : Hp) (ds : List PyData) : Prop where
  ok : Ok Z B0 H0 B H σ Γ
  sm : Same B1 B
  nb : B D = none
  nm : Z.M ≠ some D
  at_ : ∃ vs, H D = some (.lst vs) ∧ DpAll Z.K B vs ds
theorem Ok.upd {Z : Zt} {B0 H0 B H : Hp} {σ : L2.St} (o : Ok Z B0 H0 B H σ Γ) {D : Addr} {u : HO} (nb : B D = none) (nm : Z.M ≠ some D) (n0 : H0 D = none) (no : ∀ (j : Nat) (t : Slt), Γ[j]? = some (some t) → own t = true → σ[j]? ≠ some (some (.ref D))) : Ok Z B0 H0 B (upd H D u) σ Γ := by
  have up : ∀ {a : Addr} {w : HO}, a ≠ D → H a = some w → L2.upd H D u a = some w := fun {a w} n z => by rw [upd_ne n]; exact z
  refine ⟨⟨o.gr.bb, fun a w z => up (ne_of_none z nb) (o.gr.bh a w z), fun a w n z => up (ne_of_none z n0) (o.gr.hh a w n z), o.gr.nw, fun a z => ?_⟩, fun a z => ?_, o.len, fun j t q => ?_, o.dis⟩
  · by_cases ha : a = D
    · subst ha
      rw [upd_same]
      simp
    · rw [upd_ne ha]
      exact o.gr.al a z
  · obtain ⟨nb', c, cells, pos, rest, tot, h1, h2⟩ := o.hand a z
    exact ⟨nb', c, cells, pos, rest, tot, up (fun q => nm (by rw [← q]; exact z)) h1, h2⟩
  · obtain ⟨x, h1, h2⟩ := o.sl j t q
    refine ⟨x, h1, ?_⟩
    cases t with
    | v r => exact h2
    | hd => exact h2
    | ad a => exact h2
    | mu ds =>
      obtain ⟨l', vs, e', h0', hb', hm', hl', hd'⟩ := h2
      exact ⟨l', vs, e', h0', hb', hm', up (fun z => no j _ q rfl (by rw [h1, e', z])) hl', hd'⟩
    | md kvs =>
      obtain ⟨l', xs, e', h0', hb', hm', hl', hs', hd'⟩ := h2
      exact ⟨l', xs, e', h0', hb', hm', up (fun z => no j _ q rfl (by rw [h1, e', z])) hl', hs', hd'⟩
/-- the reading of a comprehension, by data -/
theorem lc_read (j : Nat) {own' : List (Str × Nat)} {n : Nat} {it : Nat → VD} {wi : TI} (A : Nat → List PyData → Prop) (Rt : Nat → Bool → Prop) (Re : Nat → PyData → Prop) (hw : Wlk (zx X M) Γ wi n it)
    (hj : own'.map (·.2) = [j]) (hl : j < Γ.length) (hn : n ≤ 100000)
    (h0 : A 0 []) (hy : ∀ i ds d, i < n → A i ds → Rt i true → Re i d → A (i + 1) (ds ++ [d])) (hno : ∀ i ds, i < n → A i ds → Rt i false → A (i + 1) ds) (hlen : ∀ i ds, A i ds → ds.length ≤ i) : ∀ (σ : L2.St) (H : Hp) (Q : VK), tN (zx X M) Γ (A n) σ H Q →
    tLc wi (gName j) (fun σ H Q => ∃ i, i < n ∧ tDT (zx X M) ((Γ.set j none).set j (some (.v (it i)))) (Rt i) σ H Q) (fun σ H Q => ∃ i, i < n ∧ Rt i true ∧ tD (zx X M) ((Γ.set j none).set j (some (.v (it i)))) (fun y => ∃ d, Re i d ∧ y = .d d) σ H Q) (own'.map (·.2)) σ H Q := by
  rintro σ H Q ⟨B0, H0, B, o, k⟩
  rw [hj]
  refine hw σ H _ ⟨B0, H0, B, o, fun J B1 H1 g1 o1 T D hD => ?_⟩
  have hD0 : H D = none := by
    cases q : H D with
    | none => rfl
    | some w => exact absurd hD (g1.al D (by rw [q]; simp))
  have h00 : H0 D = none := by
    cases q : H0 D with
    | none => rfl
    | some w => exact absurd hD0 (o.gr.al D (by rw [q]; simp))
  have hb1 : B1 D = none := o1.bh.free hD
  have hm : M ≠ some D := fun z => by
    obtain ⟨_, c, cells, pos, rest, tot, q, _⟩ := o1.hand D z
    rw [hD] at q
    cases q
  have no : ∀ (i : Nat) (t : Slt), Γ[i]? = some (some t) → own t = true → σ[i]? ≠ some (some (.ref D)) := fun i t e1 e2 e3 => (o1.ownKnown e1 e2 e3).1 hD
  -- the state between the turns: (B', H') with the frame as it was
  refine ⟨fun i m H' => m = n - i ∧ i ≤ n ∧ ∃ ds B', A i ds ∧ Mkg (zx X M) B0 H0 B1 σ Γ D H' B' ds ∧ Gr M B H B' H', ⟨n, by simp, Nat.zero_le _, [], B1, h0, ⟨o1.upd hb1 hm h00 no, Same.refl _, hb1, hm, [], upd_same, .nil⟩, ?_⟩, ?_⟩
  · refine ⟨g1.bb, fun a w z => by rw [upd_ne (ne_of_none z hb1)]; exact o1.bh a w z, fun a w nm z => by rw [upd_ne (ne_of_none z hD0)]; exact g1.hh a w nm z, g1.nw, fun a z => ?_⟩
    by_cases ha : a = D
    · subst ha
      exact absurd hD0 z
    · rw [upd_ne ha]
      exact g1.al a z
  rintro i m H' ⟨rfl, hi', ds, B', hA, mk, gr⟩
  have st : Same B1 H' := mk.sm.trans mk.ok.bh
  by_cases hlt : i < n
  · refine .inr ⟨T.go i H' st hlt, fun H2 => ∃ ds B', A (i + 1) ds ∧ Mkg (zx X M) B0 H0 B1 σ Γ D H2 B' ds ∧ Gr M B H B' H2, fun H2 ⟨ds2, B2, q1, q2, q3⟩ => ⟨n - (i + 1), by omega, rfl, hlt, ds2, B2, q1, q2, q3⟩, fun v H2 yy => ?_⟩
    obtain ⟨e1, hv⟩ := T.yld i H' v H2 st hlt yy
    have e2 := e1.symm
    subst e2
    -- the block's frame
    have ow : Ok (zx X M) B0 H0 B' H' (σ.set j none) (Γ.set j none) := mk.ok.wiped [j]
    have os : Ok (zx X M) B0 H0 B' H' ((σ.set j none).set j (some v)) ((Γ.set j none).set j (some (.v (it i)))) := ow.set (by rw [List.length_set]; exact hl) (vok_mono mk.sm hv)
    show wipe (((wipe σ [j]).set j (some v))) [j] = wipe σ [j] ∧ _
    refine ⟨by show ((σ.set j none).set j (some v)).set j none = σ.set j none; rw [List.set_set, List.set_set], i, hlt, B0, H0, B', os, fun b B2 H2 hb2 g2 o2 => ?_⟩
    have nb2 : B2 D = none := by
      obtain ⟨vs, q, _⟩ := mk.at_
      exact g2.out mk.nb (by rw [q]; simp)
    have back : ∀ {B3 H3 : Hp}, Gr M B' H' B3 H3 → Ok (zx X M) B0 H0 B3 H3 ((σ.set j none).set j (some v)) ((Γ.set j none).set j (some (.v (it i)))) → Ok (zx X M) B0 H0 B3 H3 σ Γ := fun {B3 H3} g3 o3 => mk.ok.growM g3 o3.hand
    cases b with
    | false =>
      refine iteF ?_
      obtain ⟨vs, q, qd⟩ := mk.at_
      exact ⟨ds, B2, hno i ds hlt hA hb2, ⟨back g2 o2, mk.sm.trans g2.bb, nb2, hm, vs, g2.hh _ _ hm q, dpall_mono g2.bb _ _ qd⟩, gr.trans g2⟩
    | true =>
      refine iteT ⟨i, hlt, hb2, B0, H0, B2, o2, fun u r B3 H3 hr g3 o3 hu => ?_⟩
      obtain ⟨d, hd, er⟩ := hr
      subst er
      obtain ⟨vs, q, qd⟩ := mk.at_
      have g23 : Gr M B' H' B3 H3 := g2.trans g3
      have nb3 : B3 D = none := g23.out mk.nb (by rw [q]; simp)
      have q3 := g23.hh _ _ hm q
      have o4 := back g23 o3
      have no4 : ∀ (i : Nat) (t : Slt), Γ[i]? = some (some t) → own t = true → σ[i]? ≠ some (some (.ref D)) := no
      refine ⟨vs, q3, ?_, ds ++ [d], B3, hy i ds d hlt hA hb2 hd, ⟨o4.upd nb3 hm h00 no4, mk.sm.trans g23.bb, nb3, hm, vs ++ [u], upd_same, dpall_app (dpall_mono g23.bb _ _ qd) (.cons hu .nil)⟩, ?_⟩
      · rw [dpall_len qd]
        have := hlen i ds hA
        exact Nat.lt_of_le_of_lt (Nat.le_trans this (Nat.le_trans hi' hn)) (by decide)
      · have g := gr.trans g23
        refine ⟨g.bb, fun a w z => by rw [upd_ne (ne_of_none z nb3)]; exact g.bh a w z, fun a w nm z => by rw [upd_ne (ne_of_none z hD0)]; exact g.hh a w nm z, g.nw, fun a z => ?_⟩
        by_cases ha : a = D
        · subst ha
          exact absurd hD0 z
        · rw [upd_ne ha]
          exact g.al a z
  · have ei : i = n := by omega
    subst ei
    obtain ⟨vs, q, qd⟩ := mk.at_
    exact .inl ⟨T.stop H' st, k D vs ds B' H' hA gr mk.ok hD0 mk.nb hm q qd⟩
/-- [e for x in it if t] : A i ds: what is made behind i turns -/
theorem n_lc (j : Nat) {y : Str} {own' : List (Str × Nat)} {n : Nat} {it : Nat → VD} {elt tg iter : Expr} {ifs : List Expr} {scope : Scope} {wi : TI} (A : Nat → List PyData → Prop) (Rt : Nat → Bool → Prop) (Re : Nat → PyData → Prop) (hc : X.calm = true) (hN : X.N.Nodup) (hw : Wlk (zx X M) Γ wi n it) (hi : PI X tg iter wi) (ok : BlkOk X.N X.env.scope scope own')
    (hj : own'.map (·.2) = [j]) (hl : j < Γ.length) (hn : n ≤ 100000)
    (hg : ∀ (s : Shared) (H : Hp) (C : Addr) (cl : List (Str × Addr)) (fp : List Addr), PG (X.blk s H scope (compEnvC scope cl C X.env) fp) tg (gName j))
    (ht : ∀ i, i < n → ∀ (s : Shared) (H : Hp) (C : Addr) (cl : List (Str × Addr)) (fp : List Addr), PTs (X.blk s H scope (compEnvC scope cl C X.env) fp) ifs (tDT (zx X M) ((Γ.set j none).set j (some (.v (it i)))) (Rt i)))
    (he : ∀ i, i < n → Rt i true → ∀ (s : Shared) (H : Hp) (C : Addr) (cl : List (Str × Addr)) (fp : List Addr), PE (X.blk s H scope (compEnvC scope cl C X.env) fp) elt (tD (zx X M) ((Γ.set j none).set j (some (.v (it i)))) (fun y => ∃ d, Re i d ∧ y = .d d)))
    (h0 : A 0 []) (hy : ∀ i ds d, i < n → A i ds → Rt i true → Re i d → A (i + 1) (ds ++ [d])) (hno : ∀ i ds, i < n → A i ds → Rt i false → A (i + 1) ds) (hlen : ∀ i ds, A i ds → ds.length ≤ i)
    (hfs : ∀ x, foldedSetIterable iter X.env x = pure x := by intro _; rfl) : PE X (.ListComp elt [⟨tg, iter, ifs, 0⟩] scope pos) (tN (zx X M) Γ (A n)) := by
  have ht' : ∀ (s : Shared) (H : Hp) (C : Addr) (cl : List (Str × Addr)) (fp : List Addr), PTs (X.blk s H scope (compEnvC scope cl C X.env) fp) ifs (fun σ H Q => ∃ i, i < n ∧ tDT (zx X M) ((Γ.set j none).set j (some (.v (it i)))) (Rt i) σ H Q) := fun s H C cl fp => ⟨fun pins s' σ H' Q I ⟨i, h1, q⟩ => (ht i h1 s H C cl fp).run pins s' σ H' Q I q⟩
  have he' : ∀ (s : Shared) (H : Hp) (C : Addr) (cl : List (Str × Addr)) (fp : List Addr), PE (X.blk s H scope (compEnvC scope cl C X.env) fp) elt (fun σ H Q => ∃ i, i < n ∧ Rt i true ∧ tD (zx X M) ((Γ.set j none).set j (some (.v (it i)))) (fun y => ∃ d, Re i d ∧ y = .d d) σ H Q) := fun s H C cl fp => ⟨fun pins s' σ H' Q I ⟨i, h1, h2, q⟩ => (he i h1 h2 s H C cl fp).run pins s' σ H' Q I q⟩
  exact pe_imp (pe_lc hc hN hi ok hg ht' he' hfs) (lc_read j A Rt Re hw hj hl hn h0 hy hno hlen)
/-- name = [..] -/
theorem s_asgLc (i0 j : Nat) {y : Str} {py spos : Pos} {own' : List (Str × Nat)} {n : Nat} {it : Nat → VD} {elt tg iter : Expr} {ifs : List Expr} {scope : Scope} {wi : TI} (A : Nat → List PyData → Prop) (Rt : Nat → Bool → Prop) (Re : Nat → PyData → Prop) (hc : X.calm = true) (hN : X.N.Nodup) (hw : Wlk (zx X M) Γ wi n it) (hi : PI X tg iter wi) (ok : BlkOk X.N X.env.scope scope own')
    (hj : own'.map (·.2) = [j]) (hl : j < Γ.length) (hn : n ≤ 100000)
    (hg : ∀ (s : Shared) (H : Hp) (C : Addr) (cl : List (Str × Addr)) (fp : List Addr), PG (X.blk s H scope (compEnvC scope cl C X.env) fp) tg (gName j))
    (ht : ∀ i, i < n → ∀ (s : Shared) (H : Hp) (C : Addr) (cl : List (Str × Addr)) (fp : List Addr), PTs (X.blk s H scope (compEnvC scope cl C X.env) fp) ifs (tDT (zx X M) ((Γ.set j none).set j (some (.v (it i)))) (Rt i)))
    (he : ∀ i, i < n → Rt i true → ∀ (s : Shared) (H : Hp) (C : Addr) (cl : List (Str × Addr)) (fp : List Addr), PE (X.blk s H scope (compEnvC scope cl C X.env) fp) elt (tD (zx X M) ((Γ.set j none).set j (some (.v (it i)))) (fun y => ∃ d, Re i d ∧ y = .d d)))
    (h0 : A 0 []) (hy : ∀ i ds d, i < n → A i ds → Rt i true → Re i d → A (i + 1) (ds ++ [d])) (hno : ∀ i ds, i < n → A i ds → Rt i false → A (i + 1) ds) (hlen : ∀ i ds, A i ds → ds.length ≤ i)
    (hfs : ∀ x, foldedSetIterable iter X.env x = pure x := by intro _; rfl) (h : ∀ ds, A n ds → P (.nx (Γ.set i0 (some (.mu ds))))) (hl0 : i0 < Γ.length := by exact Nat.le_of_ble_eq_true rfl) (hy0 : X.N[i0]? = some y := by rfl) (hyl : X.env.scope.names.lookup y = some .local := by rfl)
    (hsw : swapsWith (.ListComp elt [⟨tg, iter, ifs, 0⟩] scope pos) (some (.Name y py)) spos.line X.env = pure true := by first | rfl | exact sw_true rfl rfl rfl rfl) : PS X (.Assign [.Name y py] (.ListComp elt [⟨tg, iter, ifs, 0⟩] scope pos) spos) (tO (zx X M) E Γ P) := by
  have ht' : ∀ (s : Shared) (H : Hp) (C : Addr) (cl : List (Str × Addr)) (fp : List Addr), PTs (X.blk s H scope (compEnvC scope cl C X.env) fp) ifs (fun σ H Q => ∃ i, i < n ∧ tDT (zx X M) ((Γ.set j none).set j (some (.v (it i)))) (Rt i) σ H Q) := fun s H C cl fp => ⟨fun pins s' σ H' Q I ⟨i, h1, q⟩ => (ht i h1 s H C cl fp).run pins s' σ H' Q I q⟩
  have he' : ∀ (s : Shared) (H : Hp) (C : Addr) (cl : List (Str × Addr)) (fp : List Addr), PE (X.blk s H scope (compEnvC scope cl C X.env) fp) elt (fun σ H Q => ∃ i, i < n ∧ Rt i true ∧ tD (zx X M) ((Γ.set j none).set j (some (.v (it i)))) (fun y => ∃ d, Re i d ∧ y = .d d) σ H Q) := fun s H C cl fp => ⟨fun pins s' σ H' Q I ⟨i, h1, h2, q⟩ => (he i h1 h2 s H C cl fp).run pins s' σ H' Q I q⟩
  refine ps_imp (ps_setLc hc hN hy0 hyl hsw hi ok hg ht' he' hfs) fun D σ H ⟨B0, H0, B, o, k⟩ => lc_read j A Rt Re hw hj hl hn h0 hy hno hlen σ H _ ⟨B0, H0, B, o, fun l vs ds B1 H1 hd g1 o1 hl1 hb hm hH hvs => ?_⟩
  have h00 : H0 l = none := by
    cases q : H0 l with
    | none => rfl
    | some w => exact absurd hl1 (o.gr.al l (by rw [q]; simp))
  refine k.nx _ _ B1 H1 (h ds hd) (o1.setOwn hl0 ⟨l, vs, rfl, h00, hb, hm, hH, hvs⟩ fun j t e1 e2 e3 => ?_) g1.bb
  exact absurd hl1 (o.ownKnown e1 e2 e3).1
/-- without tests: the i-th item is some R i -/
theorem n_lcN (j : Nat) {own' : List (Str × Nat)} {n : Nat} {it : Nat → VD} {elt tg iter : Expr} {scope : Scope} {wi : TI} (Re : Nat → PyData → Prop) (hc : X.calm = true) (hN : X.N.Nodup) (hw : Wlk (zx X M) Γ wi n it) (hi : PI X tg iter wi) (ok : BlkOk X.N X.env.scope scope own')
    (hg : ∀ (s : Shared) (H : Hp) (C : Addr) (cl : List (Str × Addr)) (fp : List Addr), PG (X.blk s H scope (compEnvC scope cl C X.env) fp) tg (gName j))
    (he : ∀ i, i < n → ∀ (s : Shared) (H : Hp) (C : Addr) (cl : List (Str × Addr)) (fp : List Addr), PE (X.blk s H scope (compEnvC scope cl C X.env) fp) elt (tD (zx X M) ((Γ.set j none).set j (some (.v (it i)))) (fun y => ∃ d, Re i d ∧ y = .d d)))
    (hn : n ≤ 100000 := by simp) (hj : own'.map (·.2) = [j] := by rfl) (hl : j < Γ.length := by exact Nat.le_of_ble_eq_true rfl)
    (hfs : ∀ x, foldedSetIterable iter X.env x = pure x := by intro _; rfl) : PE X (.ListComp elt [⟨tg, iter, [], 0⟩] scope pos) (tN (zx X M) Γ (fun ds => ds.length = n ∧ ∀ i, i < n → ∃ d, ds[i]? = some d ∧ Re i d)) := by
  have yes : ∀ (X' : Cx) (G : Gm), PTs X' [] (tDT (zx X M) G (fun b => b = true)) := fun X' G => ⟨fun pins s σ H Q I ⟨B0, H0, B, o, k⟩ => wpAny_tests_nil ⟨H, I, k true B H rfl (Gr.refl o.bh) o⟩⟩
  refine n_lc j (y := "") (fun i ds => ds.length = i ∧ ∀ m, m < i → ∃ d, ds[m]? = some d ∧ Re m d) (fun _ b => b = true) Re hc hN hw hi ok hj hl hn hg (fun i _ s H C cl fp => yes _ _) (fun i h _ => he i h) ⟨rfl, fun m h => absurd h (Nat.not_lt_zero m)⟩ (fun i ds d hi ⟨h1, h2⟩ _ hd => ⟨by rw [List.length_append, h1]; rfl, fun m hm => ?_⟩) (fun i ds _ _ h => by cases h) (fun i ds h => Nat.le_of_eq h.1) hfs
  by_cases e : m = i
  · subst e
    exact ⟨d, by rw [← h1, List.getElem?_concat_length], hd⟩
  · obtain ⟨d', q1, q2⟩ := h2 m (by omega)
    exact ⟨d', by rw [List.getElem?_append_left (by omega)]; exact q1, q2⟩
/-- without tests, reckoned -/
theorem n_lcD (j : Nat) {own' : List (Str × Nat)} {n : Nat} {it : Nat → VD} {elt tg iter : Expr} {scope : Scope} {wi : TI} (y : Nat → PyData) (hc : X.calm = true) (hN : X.N.Nodup) (hw : Wlk (zx X M) Γ wi n it) (hi : PI X tg iter wi) (ok : BlkOk X.N X.env.scope scope own')
    (hg : ∀ (s : Shared) (H : Hp) (C : Addr) (cl : List (Str × Addr)) (fp : List Addr), PG (X.blk s H scope (compEnvC scope cl C X.env) fp) tg (gName j))
    (he : ∀ i, i < n → ∀ (s : Shared) (H : Hp) (C : Addr) (cl : List (Str × Addr)) (fp : List Addr), PE (X.blk s H scope (compEnvC scope cl C X.env) fp) elt (tD (zx X M) ((Γ.set j none).set j (some (.v (it i)))) (fun z => z = .d (y i))))
    (hn : n ≤ 100000 := by simp) (hj : own'.map (·.2) = [j] := by rfl) (hl : j < Γ.length := by exact Nat.le_of_ble_eq_true rfl)
    (hfs : ∀ x, foldedSetIterable iter X.env x = pure x := by intro _; rfl) : PE X (.ListComp elt [⟨tg, iter, [], 0⟩] scope pos) (tN (zx X M) Γ (fun ds => ds = (List.range n).map y)) := by
  refine pe_imp (n_lcN j (fun i d => d = y i) hc hN hw hi ok hg (fun i h s H C cl fp => x_mono (X := X.blk s H scope (compEnvC scope cl C X.env) fp) (he i h s H C cl fp) fun r e => ⟨y i, rfl, e⟩) hn hj hl hfs) fun σ H Q ⟨B0, H0, B, o, k⟩ => ⟨B0, H0, B, o, fun l vs ds B' H' hd => k l vs ds B' H' ?_⟩
  obtain ⟨h1, h2⟩ := hd
  refine List.ext_getElem? fun i => ?_
  by_cases hlt : i < n
  · obtain ⟨d, q1, q2⟩ := h2 i hlt
    rw [q1, q2, List.getElem?_map, List.getElem?_range hlt]
    rfl
  · rw [List.getElem?_eq_none (by omega), List.getElem?_eq_none (by rw [List.length_map, List.length_range]; omega)]
/-- with a test, reckoned -/
theorem n_lcF (j : Nat) {own' : List (Str × Nat)} {n : Nat} {it : Nat → VD} {elt tg iter : Expr} {t : Expr} {scope : Scope} {wi : TI} (f : Nat → Bool) (y : Nat → PyData) (hc : X.calm = true) (hN : X.N.Nodup) (hw : Wlk (zx X M) Γ wi n it) (hi : PI X tg iter wi) (ok : BlkOk X.N X.env.scope scope own')
    (hg : ∀ (s : Shared) (H : Hp) (C : Addr) (cl : List (Str × Addr)) (fp : List Addr), PG (X.blk s H scope (compEnvC scope cl C X.env) fp) tg (gName j))
    (ht : ∀ i, i < n → ∀ (s : Shared) (H : Hp) (C : Addr) (cl : List (Str × Addr)) (fp : List Addr), PT (X.blk s H scope (compEnvC scope cl C X.env) fp) t (tDT (zx X M) ((Γ.set j none).set j (some (.v (it i)))) (fun b => b = f i)))
    (he : ∀ i, i < n → f i = true → ∀ (s : Shared) (H : Hp) (C : Addr) (cl : List (Str × Addr)) (fp : List Addr), PE (X.blk s H scope (compEnvC scope cl C X.env) fp) elt (tD (zx X M) ((Γ.set j none).set j (some (.v (it i)))) (fun z => z = .d (y i))))
    (hn : n ≤ 100000 := by simp) (hj : own'.map (·.2) = [j] := by rfl) (hl : j < Γ.length := by exact Nat.le_of_ble_eq_true rfl)
    (hfs : ∀ x, foldedSetIterable iter X.env x = pure x := by intro _; rfl) : PE X (.ListComp elt [⟨tg, iter, [t], 0⟩] scope pos) (tN (zx X M) Γ (fun ds => ds = ((List.range n).filter f).map y)) := by
  refine n_lc j (y := "") (fun i ds => ds = ((List.range i).filter f).map y) (fun i b => b = f i) (fun i d => d = y i) hc hN hw hi ok hj hl hn hg (fun i h s H C cl fp => pts_one (ht i h s H C cl fp)) (fun i h ht s H C cl fp => x_mono (X := X.blk s H scope (compEnvC scope cl C X.env) fp) (he i h ht.symm s H C cl fp) fun r e => ⟨y i, rfl, e⟩) rfl (fun i ds d _ h1 h2 h3 => ?_) (fun i ds _ h1 h2 => ?_) (fun i ds h => ?_) hfs
  · rw [h1, h3, List.range_succ, List.filter_append, List.map_append, List.filter_cons, if_pos h2.symm]
    rfl
  · rw [h1, List.range_succ, List.filter_append, List.map_append, List.filter_cons, if_neg (by rw [← h2]; decide)]
    simp
  · rw [h, List.length_map]
    have := List.length_filter_le f (List.range i)
    rw [List.length_range] at this
    exact this
/-- name = [..], without tests, reckoned -/
theorem s_asgLcD (i0 j : Nat) {z : Str} {py spos : Pos} {own' : List (Str × Nat)} {n : Nat} {it : Nat → VD} {elt tg iter : Expr} {scope : Scope} {wi : TI} (y : Nat → PyData) (hc : X.calm = true) (hN : X.N.Nodup) (hw : Wlk (zx X M) Γ wi n it) (hi : PI X tg iter wi) (ok : BlkOk X.N X.env.scope scope own')
    (hg : ∀ (s : Shared) (H : Hp) (C : Addr) (cl : List (Str × Addr)) (fp : List Addr), PG (X.blk s H scope (compEnvC scope cl C X.env) fp) tg (gName j))
    (he : ∀ i, i < n → ∀ (s : Shared) (H : Hp) (C : Addr) (cl : List (Str × Addr)) (fp : List Addr), PE (X.blk s H scope (compEnvC scope cl C X.env) fp) elt (tD (zx X M) ((Γ.set j none).set j (some (.v (it i)))) (fun z => z = .d (y i))))
    (hn : n ≤ 100000) (h : P (.nx (Γ.set i0 (some (.mu ((List.range n).map y)))))) (hj : own'.map (·.2) = [j] := by rfl) (hl : j < Γ.length := by exact Nat.le_of_ble_eq_true rfl)
    (hfs : ∀ x, foldedSetIterable iter X.env x = pure x := by intro _; rfl) (hl0 : i0 < Γ.length := by exact Nat.le_of_ble_eq_true rfl) (hy0 : X.N[i0]? = some z := by rfl) (hyl : X.env.scope.names.lookup z = some .local := by rfl)
    (hsw : swapsWith (.ListComp elt [⟨tg, iter, [], 0⟩] scope pos) (some (.Name z py)) spos.line X.env = pure true := by first | rfl | exact sw_true rfl rfl rfl rfl) : PS X (.Assign [.Name z py] (.ListComp elt [⟨tg, iter, [], 0⟩] scope pos) spos) (tO (zx X M) E Γ P) := by
  have yes : ∀ (X' : Cx) (G : Gm), PTs X' [] (tDT (zx X M) G (fun b => b = true)) := fun X' G => ⟨fun pins s σ H Q I ⟨B0, H0, B, o, k⟩ => wpAny_tests_nil ⟨H, I, k true B H rfl (Gr.refl o.bh) o⟩⟩
  refine s_asgLc i0 j (fun i ds => ds = (List.range i).map y) (fun _ b => b = true) (fun i d => d = y i) hc hN hw hi ok hj hl hn hg (fun i _ s H C cl fp => yes _ _) (fun i h _ s H C cl fp => x_mono (X := X.blk s H scope (compEnvC scope cl C X.env) fp) (he i h s H C cl fp) fun r e => ⟨y i, rfl, e⟩) rfl (fun i ds d _ h1 _ h3 => ?_) (fun i ds _ _ h => by cases h) (fun i ds h => ?_) hfs (fun ds e => by rw [e]; exact h) hl0 hy0 hyl hsw
  · rw [h1, h3, List.range_succ, List.map_append]
    rfl
  · rw [h, List.length_map, List.length_range]
    exact Nat.le_refl i
theorem x_n {ds : List PyData} (h : PE X e (tN (zx X M) Γ (fun l => l = ds))) : PE X e (tD (zx X M) Γ (fun y => y = .d (.list ds))) := x_mono (x_ofN h) fun r ⟨l, e1, e2⟩ => by rw [e2, e1]
/-! ### a whole def -/
def gstart (N : List Str) (rs : List VD) : Gm := rs.map (fun r => some (.v r)) ++ List.replicate (N.length - rs.length) none
theorem vsok_len {Z : Zt} {B : Hp} : ∀ {vs : List V} {rs : List VD}, VsOk Z B vs rs → vs.length = rs.length
  | _, _, .nil => rfl
  | _, _, .cons _ h => congrArg Nat.succ (vsok_len h)
theorem vsok_get {Z : Zt} {B : Hp} : ∀ {vs : List V} {rs : List VD} {i : Nat} {r : VD}, VsOk Z B vs rs → rs[i]? = some r → ∃ v, vs[i]? = some v ∧ VOk Z B v r
  | _, _, i, _, .nil, e => by simp at e
  | _, _, 0, _, .cons h _, e => by
    have e2 := Option.some.inj e
    subst e2
    exact ⟨_, rfl, h⟩
  | _, _, i + 1, _, .cons _ h, e => vsok_get (i := i) h e
theorem ok_start {Z : Zt} {B H : Hp} {N : List Str} {vs : List V} {rs : List VD} (hs : Same B H) (h : VsOk Z B vs rs) (hM : HandM Z B H) : Ok Z B H B H (L2.start N vs) (gstart N rs) := by
  have hl := vsok_len h
  have key : ∀ (i : Nat) (s : Slt), (gstart N rs)[i]? = some (some s) → ∃ r, rs[i]? = some r ∧ s = .v r := fun i s e => by
    unfold gstart at e
    by_cases hi : i < rs.length
    · rw [List.getElem?_append_left (by rw [List.length_map]; exact hi), List.getElem?_map, List.getElem?_eq_getElem hi] at e
      exact ⟨rs[i], List.getElem?_eq_getElem hi, (Option.some.inj (Option.some.inj e)).symm⟩
    · rw [List.getElem?_append_right (by rw [List.length_map]; omega)] at e
      obtain ⟨h1, h2⟩ := List.getElem?_eq_some_iff.mp e
      rw [List.getElem_replicate] at h2
      cases h2
  refine ⟨Gr.refl hs, hM, by unfold L2.start gstart; simp [hl], fun i s e => ?_, fun i j s t x e1 e2 o1 o2 _ _ => ?_⟩
  · obtain ⟨r, h1, h2⟩ := key i s e
    subst h2
    obtain ⟨v, h3, h4⟩ := vsok_get h h1
    refine ⟨v, ?_, h4⟩
    unfold L2.start
    have hi := (List.getElem?_eq_some_iff.mp h3).1
    rw [List.getElem?_append_left (by rw [List.length_map]; exact hi), List.getElem?_map, h3]
    rfl
  · obtain ⟨r, _, h2⟩ := key i s e1
    subst h2
    cases o1
def PF (R : VD) : O → Prop
  | .rt r => r = R
  | .nx _ => R = .d .none
  | _ => False
/-- a def that raises nothing keeps its promise -/
theorem fun_pure {P : Program} {w : World} {K : PySem.W.Frag} {mg : Str → Option Value} {base : Heap} {ι : Type} {A : ι → List VD} {C : ι → Prop} {R : ι → VD} {y qual : Str} {params : Arguments} {bd : List Stmt} {scope : Scope} {dvs : List V} {kws : List (Str × V)} {f : Addr} {fd : FuncData} {N ps : List Str} {k : Nat}
    (F : FunD K y qual params bd scope dvs kws f fd) (S : FnScope N ps scope) (hl : ∀ i, (A i).length = ps.length)
    (hb : ∀ (i : ι) (cdv : Value) (Ar : Around) (outer : List Env) (s : Shared) (H : Hp) (E : XK), C i → Room k (Ar.deeper (envOfC qual scope s.heap.objs.size f cdv)) →
      PSs (cxOf CX0 P w K mg base N qual scope f cdv Ar outer s H E).nox bd (tO (zx (cxOf CX0 P w K mg base N qual scope f cdv Ar outer s H E).nox none) E0 (gstart N (A i)) (PF (R i)))) : FnOk P w K mg base CX0 (k + 1) f fd ps (spP P w K A C R) := by
  refine F.ok S (fun vs H Q E h => ?_) (fun cdv Ar outer s H vs Q E hr h => ?_)
  · obtain ⟨i, B, hC, hs, hv, _⟩ := h
    rw [vsok_len hv, hl]
  · obtain ⟨i, B, hC, hs, hv, q⟩ := h
    refine ⟨_, (hb i cdv Ar outer s H E hC hr).nox, B, H, B, ok_start hs hv (fun h z => by cases z), ⟨fun G s b h hp o sm => ?_, fun r v b h hp g hM hv => ?_, fun G s b h hp o sm => hp.elim, fun G s b h hp o sm => hp.elim, fun C f x v d b h hp => hp.elim⟩⟩
    · have hp : R i = .d .none := hp
      refine q .non b h (o.gr) ?_
      rw [hp]
      exact Dp.non
    · have hp : r = R i := hp
      subst hp
      exact q v b h g hv
end
end K27
namespace K27
open PySem PySem.Spec PyProof.Rows L2
section
variable {X : Cx} {M : Option Addr} {Γ : Gm} {a b c e : Expr} {pos : Pos}
/-- a if t else b, of ints -/
theorem x_iteI {q : Prop} [Decidable q] {i j : Int} (hc : PT X c (tDT (zx X M) Γ (fun k => k = decide q))) (ha : q → PE X a (tD (zx X M) Γ (fun y => y = .d (.int i)))) (hb : ¬ q → PE X b (tD (zx X M) Γ (fun y => y = .d (.int j)))) : PE X (.IfExp c a b pos) (tD (zx X M) Γ (fun y => y = .d (.int (if q then i else j)))) :=
  x_if hc (fun h => by rw [if_pos (of_decide_eq_true h.symm)]; exact ha (of_decide_eq_true h.symm)) (fun h => by rw [if_neg (of_decide_eq_false h.symm)]; exact hb (of_decide_eq_false h.symm))
theorem x_ite {q : Prop} [Decidable q] {i j : VD} (hc : PT X c (tDT (zx X M) Γ (fun k => k = decide q))) (ha : q → PE X a (tD (zx X M) Γ (fun y => y = i))) (hb : ¬ q → PE X b (tD (zx X M) Γ (fun y => y = j))) : PE X (.IfExp c a b pos) (tD (zx X M) Γ (fun y => y = if q then i else j)) :=
  x_if hc (fun h => by rw [if_pos (of_decide_eq_true h.symm)]; exact ha (of_decide_eq_true h.symm)) (fun h => by rw [if_neg (of_decide_eq_false h.symm)]; exact hb (of_decide_eq_false h.symm))
/-- a constant of the module as data -/
theorem x_glob {x : Str} {v : V} {u : Value} {r : VD} (hm : X.mg x = some u) (hr : RelV v u) (h : ∀ B, VOk (zx X M) B v r) (hg : Gl X x := by rfl) (hd : (x == ("__debug__" : Str)) = false := by decide) : PE X (.Name x pos) (tD (zx X M) Γ (fun y => y = r)) := x_c (pe_glob hg hm hr hd) h
end
end K27
namespace K27
open PySem PySem.Spec PyProof.Rows L2
section
variable {X : Cx} {M : Option Addr} {E : XK} {Γ : Gm} {P : O → Prop} {e : Expr} {pos p : Pos} {x : Str}
theorem getD_int {l : List Int} {i : Nat} (h : i < l.length) : (l.map PyData.int).getD i .none = .int (l.getD i 0) := by
  rw [List.getD_eq_getElem?_getD, List.getD_eq_getElem?_getD, List.getElem?_map, List.getElem?_eq_getElem h]
  rfl
theorem Turns.imp {Z : Zt} {B1 : Hp} {J : It} {n : Nat} {it it' : Nat → VD} (T : Turns Z B1 J n it) (h : ∀ i, i < n → it i = it' i) : Turns Z B1 J n it' :=
  ⟨T.go, fun i H v H' hs hi y => by rw [← h i hi]; exact T.yld i H v H' hs hi y, T.stop⟩
theorem Wlk.imp {Z : Zt} {wi : TI} {n : Nat} {it it' : Nat → VD} (w : Wlk Z Γ wi n it) (h : ∀ i, i < n → it i = it' i) : Wlk Z Γ wi n it' := fun σ H R ⟨B0, H0, B, o, k⟩ => w σ H R ⟨B0, H0, B, o, fun J B1 H1 g o1 T => k J B1 H1 g o1 (T.imp h)⟩
theorem Wlk.len {Z : Zt} {wi : TI} {n m : Nat} {it : Nat → VD} (w : Wlk Z Γ wi n it) (h : n = m) : Wlk Z Γ wi m it := h ▸ w
theorem wlk_ti {Z : Zt} {l : List Int} : Wlk Z Γ (iTup Z.K (tD Z Γ (fun y => y = .d (.tuple (l.map PyData.int))))) l.length (fun i => .d (.int (l.getD i 0))) :=
  (wlk_tup.len (List.length_map ..)).imp fun i hi => congrArg VD.d (getD_int hi)
theorem wlk_li {Z : Zt} {l : List Int} : Wlk Z Γ (iList Z.K (tD Z Γ (fun y => y = .d (.list (l.map PyData.int))))) l.length (fun i => .d (.int (l.getD i 0))) :=
  (wlk_lst.len (List.length_map ..)).imp fun i hi => congrArg VD.d (getD_int hi)
/-- xs[i] = e, all ints -/
theorem s_setII (j : Nat) (l : List Int) {y n : Int} {ie : Expr} {q : Pos} (he : PE X e (tD (zx X M) Γ (fun r => r = .d (.int y)))) (hi : PE X ie (tD (zx X M) Γ (fun r => r = .d (.int n)))) (hm : 0 ≤ n ∧ n < l.length) (h : P (.nx (Γ.set j (some (.mu ((l.set n.toNat y).map PyData.int)))))) (hG : Γ[j]? = some (some (.mu (l.map PyData.int))) := by rfl)
    (hN : X.N[j]? = some x := by rfl) (hv : Vis X.env.scope x := by first | exact Or.inl rfl | exact Or.inr (Or.inl rfl) | exact Or.inr (Or.inr rfl)) (hd : (x == ("__debug__" : Str)) = false := by decide) (hcd : (x == ("__classdict__" : Str)) = false := by decide)
    (ha : ∀ v, assign (.Subscript (.Name x q) ie p) X.env v = (do
      let ov ← holding [v] (eval (.Name x q) X.env)
      let iv ← holding [v, ov] (eval ie X.env)
      standAt p
      holding [v, ov, iv] (setItem ov iv v)
      release [v, ov, iv] []) := by intro _; rfl)
    (hs : swapsWithSole [.Subscript (.Name x q) ie p] e pos.line X.env = pure false := by rfl) (hw : swappedStores [.Subscript (.Name x q) ie p] e X.env = pure none := by rfl)
    (h1 : (assignEach [.Subscript (.Name x q) ie p] X.env).map (·.2) = [assign (.Subscript (.Name x q) ie p) X.env] := by rfl) : PS X (.Assign [.Subscript (.Name x q) ie p] e pos) (tO (zx X M) E Γ P) :=
  s_setI j he hi (m := n.toNat) (by
    unfold ixN
    rw [if_pos hm.1, List.length_map, if_pos hm.2]) (by rw [← List.map_set]; exact h) hG hN hv hd hcd ha hs hw h1
end
end K27
set_option maxHeartbeats 4000000
/-! The text: its defs by their places among the top's statements, their names by slots, what the head is asked. -/
namespace K27
open PySem PySem.Spec PyProof.Rows L2
def top (i : Nat) : Stmt := PySem.Challenge.pw_tautparcel_k27_whole_strips_go_on_and_co.main.body.getD i (.Pass ⟨0, 0, 0, 0⟩)
abbrev st_BadFaceInit : Stmt := inClass (top 6) 0
abbrev N_BadFaceInit : List Str := ["self", "face"]
theorem sc_BadFaceInit : FnScope N_BadFaceInit ["self", "face"] (defScope st_BadFaceInit) := ⟨rfl, rfl, rfl, by decide +kernel, rfl, by decide +kernel, by decide +kernel⟩
def d_BadFaceInit : He.DefD := ⟨("BadFace", some "__init__"), "__init__", "BadFace.__init__", defArgs st_BadFaceInit, defBody st_BadFaceInit, defScope st_BadFaceInit, [], []⟩
abbrev st_BadDirectionInit : Stmt := inClass (top 7) 0
abbrev N_BadDirectionInit : List Str := ["self", "what"]
theorem sc_BadDirectionInit : FnScope N_BadDirectionInit ["self", "what"] (defScope st_BadDirectionInit) := ⟨rfl, rfl, rfl, by decide +kernel, rfl, by decide +kernel, by decide +kernel⟩
def d_BadDirectionInit : He.DefD := ⟨("BadDirection", some "__init__"), "__init__", "BadDirection.__init__", defArgs st_BadDirectionInit, defBody st_BadDirectionInit, defScope st_BadDirectionInit, [], []⟩
abbrev st_BadStripInit : Stmt := inClass (top 10) 0
abbrev N_BadStripInit : List Str := ["self", "what"]
theorem sc_BadStripInit : FnScope N_BadStripInit ["self", "what"] (defScope st_BadStripInit) := ⟨rfl, rfl, rfl, by decide +kernel, rfl, by decide +kernel, by decide +kernel⟩
def d_BadStripInit : He.DefD := ⟨("BadStrip", some "__init__"), "__init__", "BadStrip.__init__", defArgs st_BadStripInit, defBody st_BadStripInit, defScope st_BadStripInit, [], []⟩
abbrev st_is_whole : Stmt := top 14
abbrev N_is_whole : List Str := ["thing", "low", "high"]
theorem sc_is_whole : FnScope N_is_whole ["thing", "low", "high"] (defScope st_is_whole) := ⟨rfl, rfl, rfl, by decide +kernel, rfl, by decide +kernel, by decide +kernel⟩
def d_is_whole : He.DefD := ⟨("is_whole", none), "is_whole", "is_whole", defArgs st_is_whole, defBody st_is_whole, defScope st_is_whole, [.non, .non], []⟩
abbrev st_check_face : Stmt := top 21
abbrev N_check_face : List Str := ["face"]
theorem sc_check_face : FnScope N_check_face ["face"] (defScope st_check_face) := ⟨rfl, rfl, rfl, by decide +kernel, rfl, by decide +kernel, by decide +kernel⟩
def d_check_face : He.DefD := ⟨("check_face", none), "check_face", "check_face", defArgs st_check_face, defBody st_check_face, defScope st_check_face, [], []⟩
abbrev st_check_corner : Stmt := top 22
abbrev N_check_corner : List Str := ["corner"]
theorem sc_check_corner : FnScope N_check_corner ["corner"] (defScope st_check_corner) := ⟨rfl, rfl, rfl, by decide +kernel, rfl, by decide +kernel, by decide +kernel⟩
def d_check_corner : He.DefD := ⟨("check_corner", none), "check_corner", "check_corner", defArgs st_check_corner, defBody st_check_corner, defScope st_check_corner, [], []⟩
abbrev st_face_axes : Stmt := top 23
abbrev N_face_axes : List Str := ["face"]
theorem sc_face_axes : FnScope N_face_axes ["face"] (defScope st_face_axes) := ⟨rfl, rfl, rfl, by decide +kernel, rfl, by decide +kernel, by decide +kernel⟩
def d_face_axes : He.DefD := ⟨("face_axes", none), "face_axes", "face_axes", defArgs st_face_axes, defBody st_face_axes, defScope st_face_axes, [], []⟩
abbrev st_faces_beside : Stmt := top 24
abbrev N_faces_beside : List Str := ["face", "other"]
theorem sc_faces_beside : FnScope N_faces_beside ["face"] (defScope st_faces_beside) := ⟨rfl, rfl, rfl, by decide +kernel, rfl, by decide +kernel, by decide +kernel⟩
def d_faces_beside : He.DefD := ⟨("faces_beside", none), "faces_beside", "faces_beside", defArgs st_faces_beside, defBody st_faces_beside, defScope st_faces_beside, [], []⟩
abbrev st_corner_bits : Stmt := top 25
abbrev N_corner_bits : List Str := ["corner"]
theorem sc_corner_bits : FnScope N_corner_bits ["corner"] (defScope st_corner_bits) := ⟨rfl, rfl, rfl, by decide +kernel, rfl, by decide +kernel, by decide +kernel⟩
def d_corner_bits : He.DefD := ⟨("corner_bits", none), "corner_bits", "corner_bits", defArgs st_corner_bits, defBody st_corner_bits, defScope st_corner_bits, [], []⟩
abbrev st_faces_of_corner : Stmt := top 26
abbrev N_faces_of_corner : List Str := ["corner", "bits"]
theorem sc_faces_of_corner : FnScope N_faces_of_corner ["corner"] (defScope st_faces_of_corner) := ⟨rfl, rfl, rfl, by decide +kernel, rfl, by decide +kernel, by decide +kernel⟩
def d_faces_of_corner : He.DefD := ⟨("faces_of_corner", none), "faces_of_corner", "faces_of_corner", defArgs st_faces_of_corner, defBody st_faces_of_corner, defScope st_faces_of_corner, [], []⟩
abbrev st_BoxInit : Stmt := inClass (top 27) 0
abbrev N_BoxInit : List Str := ["self", "sides", "index", "side"]
theorem sc_BoxInit : FnScope N_BoxInit ["self", "sides"] (defScope st_BoxInit) := ⟨rfl, rfl, rfl, by decide +kernel, rfl, by decide +kernel, by decide +kernel⟩
def d_BoxInit : He.DefD := ⟨("Box", some "__init__"), "__init__", "Box.__init__", defArgs st_BoxInit, defBody st_BoxInit, defScope st_BoxInit, [], []⟩
abbrev st_framed : Stmt := top 29
abbrev N_framed : List Str := ["face", "triple", "axes"]
theorem sc_framed : FnScope N_framed ["face", "triple"] (defScope st_framed) := ⟨rfl, rfl, rfl, by decide +kernel, rfl, by decide +kernel, by decide +kernel⟩
def d_framed : He.DefD := ⟨("framed", none), "framed", "framed", defArgs st_framed, defBody st_framed, defScope st_framed, [], []⟩
abbrev st_check_direction : Stmt := top 32
abbrev N_check_direction : List Str := ["face", "direction", "step", "first", "second"]
theorem sc_check_direction : FnScope N_check_direction ["face", "direction"] (defScope st_check_direction) := ⟨rfl, rfl, rfl, by decide +kernel, rfl, by decide +kernel, by decide +kernel⟩
def d_check_direction : He.DefD := ⟨("check_direction", none), "check_direction", "check_direction", defArgs st_check_direction, defBody st_check_direction, defScope st_check_direction, [], []⟩
abbrev st_outward_step : Stmt := top 33
abbrev N_outward_step : List Str := ["beside", "direction", "step"]
theorem sc_outward_step : FnScope N_outward_step ["beside", "direction"] (defScope st_outward_step) := ⟨rfl, rfl, rfl, by decide +kernel, rfl, by decide +kernel, by decide +kernel⟩
def d_outward_step : He.DefD := ⟨("outward_step", none), "outward_step", "outward_step", defArgs st_outward_step, defBody st_outward_step, defScope st_outward_step, [], []⟩
abbrev st_StripInit : Stmt := inClass (top 46) 0
abbrev N_StripInit : List Str := ["self", "face", "direction", "low", "high"]
theorem sc_StripInit : FnScope N_StripInit ["self", "face", "direction", "low", "high"] (defScope st_StripInit) := ⟨rfl, rfl, rfl, by decide +kernel, rfl, by decide +kernel, by decide +kernel⟩
def d_StripInit : He.DefD := ⟨("Strip", some "__init__"), "__init__", "Strip.__init__", defArgs st_StripInit, defBody st_StripInit, defScope st_StripInit, [], []⟩
abbrev st_StripEq : Stmt := inClass (top 46) 1
abbrev N_StripEq : List Str := ["self", "other"]
theorem sc_StripEq : FnScope N_StripEq ["self", "other"] (defScope st_StripEq) := ⟨rfl, rfl, rfl, by decide +kernel, rfl, by decide +kernel, by decide +kernel⟩
def d_StripEq : He.DefD := ⟨("Strip", some "__eq__"), "__eq__", "Strip.__eq__", defArgs st_StripEq, defBody st_StripEq, defScope st_StripEq, [], []⟩
abbrev st_SplitInit : Stmt := inClass (top 47) 0
abbrev N_SplitInit : List Str := ["self", "corner"]
theorem sc_SplitInit : FnScope N_SplitInit ["self", "corner"] (defScope st_SplitInit) := ⟨rfl, rfl, rfl, by decide +kernel, rfl, by decide +kernel, by decide +kernel⟩
def d_SplitInit : He.DefD := ⟨("Split", some "__init__"), "__init__", "Split.__init__", defArgs st_SplitInit, defBody st_SplitInit, defScope st_SplitInit, [], []⟩
abbrev st_SplitEq : Stmt := inClass (top 47) 1
abbrev N_SplitEq : List Str := ["self", "other"]
theorem sc_SplitEq : FnScope N_SplitEq ["self", "other"] (defScope st_SplitEq) := ⟨rfl, rfl, rfl, by decide +kernel, rfl, by decide +kernel, by decide +kernel⟩
def d_SplitEq : He.DefD := ⟨("Split", some "__eq__"), "__eq__", "Split.__eq__", defArgs st_SplitEq, defBody st_SplitEq, defScope st_SplitEq, [], []⟩
abbrev st_measure_at : Stmt := top 48
abbrev N_measure_at : List Str := ["face", "direction", "spot", "first", "second"]
theorem sc_measure_at : FnScope N_measure_at ["face", "direction", "spot"] (defScope st_measure_at) := ⟨rfl, rfl, rfl, by decide +kernel, rfl, by decide +kernel, by decide +kernel⟩
def d_measure_at : He.DefD := ⟨("measure_at", none), "measure_at", "measure_at", defArgs st_measure_at, defBody st_measure_at, defScope st_measure_at, [], []⟩
abbrev st_face_level : Stmt := top 49
abbrev N_face_level : List Str := ["box", "face"]
theorem sc_face_level : FnScope N_face_level ["box", "face"] (defScope st_face_level) := ⟨rfl, rfl, rfl, by decide +kernel, rfl, by decide +kernel, by decide +kernel⟩
def d_face_level : He.DefD := ⟨("face_level", none), "face_level", "face_level", defArgs st_face_level, defBody st_face_level, defScope st_face_level, [], []⟩
abbrev st_edge_ends : Stmt := top 50
abbrev N_edge_ends : List Str := ["box", "face", "beside", "direction", "spot", "near", "along"]
theorem sc_edge_ends : FnScope N_edge_ends ["box", "face", "beside", "direction"] (defScope st_edge_ends) := ⟨rfl, rfl, rfl, by decide +kernel, rfl, by decide +kernel, by decide +kernel⟩
def d_edge_ends : He.DefD := ⟨("edge_ends", none), "edge_ends", "edge_ends", defArgs st_edge_ends, defBody st_edge_ends, defScope st_edge_ends, [], []⟩
abbrev st_sideways_range : Stmt := top 51
abbrev N_sideways_range : List Str := ["box", "face", "direction", "steps", "found", "beside"]
theorem sc_sideways_range : FnScope N_sideways_range ["box", "face", "direction"] (defScope st_sideways_range) := ⟨rfl, rfl, rfl, by decide +kernel, rfl, by decide +kernel, by decide +kernel⟩
def d_sideways_range : He.DefD := ⟨("sideways_range", none), "sideways_range", "sideways_range", defArgs st_sideways_range, defBody st_sideways_range, defScope st_sideways_range, [], []⟩
abbrev st_check_strip : Stmt := top 52
abbrev N_check_strip : List Str := ["box", "strip", "steps", "least", "greatest"]
theorem sc_check_strip : FnScope N_check_strip ["box", "strip"] (defScope st_check_strip) := ⟨rfl, rfl, rfl, by decide +kernel, rfl, by decide +kernel, by decide +kernel⟩
def d_check_strip : He.DefD := ⟨("check_strip", none), "check_strip", "check_strip", defArgs st_check_strip, defBody st_check_strip, defScope st_check_strip, [], []⟩
abbrev st_leaving_faces : Stmt := top 53
abbrev N_leaving_faces : List Str := ["face", "direction", "beside"]
theorem sc_leaving_faces : FnScope N_leaving_faces ["face", "direction"] (defScope st_leaving_faces) := ⟨rfl, rfl, rfl, by decide +kernel, rfl, by decide +kernel, by decide +kernel⟩
def d_leaving_faces : He.DefD := ⟨("leaving_faces", none), "leaving_faces", "leaving_faces", defArgs st_leaving_faces, defBody st_leaving_faces, defScope st_leaving_faces, [], []⟩
abbrev st_turned_back : Stmt := top 54
abbrev N_turned_back : List Str := ["strip", "step"]
theorem sc_turned_back : FnScope N_turned_back ["strip"] (defScope st_turned_back) := ⟨rfl, rfl, rfl, by decide +kernel, rfl, by decide +kernel, by decide +kernel⟩
def d_turned_back : He.DefD := ⟨("turned_back", none), "turned_back", "turned_back", defArgs st_turned_back, defBody st_turned_back, defScope st_turned_back, [], []⟩
abbrev st_gone_over : Stmt := top 55
abbrev N_gone_over : List Str := ["face", "beside", "direction", "steps", "out"]
theorem sc_gone_over : FnScope N_gone_over ["face", "beside", "direction"] (defScope st_gone_over) := ⟨rfl, rfl, rfl, by decide +kernel, rfl, by decide +kernel, by decide +kernel⟩
def d_gone_over : He.DefD := ⟨("gone_over", none), "gone_over", "gone_over", defArgs st_gone_over, defBody st_gone_over, defScope st_gone_over, [], []⟩
abbrev st_onward : Stmt := top 56
abbrev N_onward : List Str := ["box", "strip", "beside", "ends", "direction", "grown"]
theorem sc_onward : FnScope N_onward ["box", "strip"] (defScope st_onward) := ⟨rfl, rfl, rfl, by decide +kernel, rfl, by decide +kernel, by decide +kernel⟩
def d_onward : He.DefD := ⟨("onward", none), "onward", "onward", defArgs st_onward, defBody st_onward, defScope st_onward, [], []⟩
abbrev st_split_ahead : Stmt := top 57
abbrev N_split_ahead : List Str := ["strip", "around", "corner"]
theorem sc_split_ahead : FnScope N_split_ahead ["strip"] (defScope st_split_ahead) := ⟨rfl, rfl, rfl, by decide +kernel, rfl, by decide +kernel, by decide +kernel⟩
def d_split_ahead : He.DefD := ⟨("split_ahead", none), "split_ahead", "split_ahead", defArgs st_split_ahead, defBody st_split_ahead, defScope st_split_ahead, [], []⟩
abbrev st_strip_after : Stmt := top 58
abbrev N_strip_after : List Str := ["box", "strip", "taken", "following"]
theorem sc_strip_after : FnScope N_strip_after ["box", "strip"] (defScope st_strip_after) := ⟨rfl, rfl, rfl, by decide +kernel, rfl, by decide +kernel, by decide +kernel⟩
def d_strip_after : He.DefD := ⟨("strip_after", none), "strip_after", "strip_after", defArgs st_strip_after, defBody st_strip_after, defScope st_strip_after, [], []⟩
abbrev st_strip_before : Stmt := top 59
abbrev N_strip_before : List Str := ["box", "strip", "taken", "following"]
theorem sc_strip_before : FnScope N_strip_before ["box", "strip"] (defScope st_strip_before) := ⟨rfl, rfl, rfl, by decide +kernel, rfl, by decide +kernel, by decide +kernel⟩
def d_strip_before : He.DefD := ⟨("strip_before", none), "strip_before", "strip_before", defArgs st_strip_before, defBody st_strip_before, defScope st_strip_before, [], []⟩
abbrev st_lane_of_strip : Stmt := top 68
abbrev N_lane_of_strip : List Str := ["box", "strip", "taken", "found"]
theorem sc_lane_of_strip : FnScope N_lane_of_strip ["box", "strip"] (defScope st_lane_of_strip) := ⟨rfl, rfl, rfl, by decide +kernel, rfl, by decide +kernel, by decide +kernel⟩
def d_lane_of_strip : He.DefD := ⟨("lane_of_strip", none), "lane_of_strip", "lane_of_strip", defArgs st_lane_of_strip, defBody st_lane_of_strip, defScope st_lane_of_strip, [], []⟩
abbrev st_law_hand : Stmt := top 70
abbrev N_law_hand : List Str := ["_law_script", "_law_total", "_law_cells", "_law_cell"]
theorem sc_law_hand : FnScope N_law_hand ["_law_script"] (defScope st_law_hand) := ⟨rfl, rfl, rfl, by decide +kernel, rfl, by decide +kernel, by decide +kernel⟩
def d_law_hand : He.DefD := ⟨("_law_hand", none), "_law_hand", "_law_hand", defArgs st_law_hand, defBody st_law_hand, defScope st_law_hand, [], []⟩
abbrev st_law_mixed : Stmt := top 71
abbrev N_law_mixed : List Str := ["_law_number", "_law_turn", "_law_once", "_law_twice"]
theorem sc_law_mixed : FnScope N_law_mixed ["_law_number", "_law_turn"] (defScope st_law_mixed) := ⟨rfl, rfl, rfl, by decide +kernel, rfl, by decide +kernel, by decide +kernel⟩
def d_law_mixed : He.DefD := ⟨("_law_mixed", none), "_law_mixed", "_law_mixed", defArgs st_law_mixed, defBody st_law_mixed, defScope st_law_mixed, [], []⟩
abbrev st_law_take : Stmt := top 72
abbrev N_law_take : List Str := ["_law_hand_here", "_law_many_here", "_law_cell", "_law_rest"]
theorem sc_law_take : FnScope N_law_take ["_law_hand_here", "_law_many_here"] (defScope st_law_take) := ⟨rfl, rfl, rfl, by decide +kernel, rfl, by decide +kernel, by decide +kernel⟩
def d_law_take : He.DefD := ⟨("_law_take", none), "_law_take", "_law_take", defArgs st_law_take, defBody st_law_take, defScope st_law_take, [], []⟩
abbrev st_law_axes : Stmt := top 73
abbrev N_law_axes : List Str := ["_law_face"]
theorem sc_law_axes : FnScope N_law_axes ["_law_face"] (defScope st_law_axes) := ⟨rfl, rfl, rfl, by decide +kernel, rfl, by decide +kernel, by decide +kernel⟩
def d_law_axes : He.DefD := ⟨("_law_axes", none), "_law_axes", "_law_axes", defArgs st_law_axes, defBody st_law_axes, defScope st_law_axes, [], []⟩
abbrev st_law_steps : Stmt := top 74
abbrev N_law_steps : List Str := ["_law_face", "_law_first", "_law_second", "_law_axes_here", "_law_out_here"]
theorem sc_law_steps : FnScope N_law_steps ["_law_face", "_law_first", "_law_second"] (defScope st_law_steps) := ⟨rfl, rfl, rfl, by decide +kernel, rfl, by decide +kernel, by decide +kernel⟩
def d_law_steps : He.DefD := ⟨("_law_steps", none), "_law_steps", "_law_steps", defArgs st_law_steps, defBody st_law_steps, defScope st_law_steps, [], []⟩
abbrev st_law_four : Stmt := top 75
abbrev N_law_four : List Str := ["_law_face", "_law_slope", "_law_p", "_law_q"]
theorem sc_law_four : FnScope N_law_four ["_law_face", "_law_slope"] (defScope st_law_four) := ⟨rfl, rfl, rfl, by decide +kernel, rfl, by decide +kernel, by decide +kernel⟩
def d_law_four : He.DefD := ⟨("_law_four", none), "_law_four", "_law_four", defArgs st_law_four, defBody st_law_four, defScope st_law_four, [], []⟩
abbrev st_law_out : Stmt := top 76
abbrev N_law_out : List Str := ["_law_beside", "_law_steps_here"]
theorem sc_law_out : FnScope N_law_out ["_law_beside", "_law_steps_here"] (defScope st_law_out) := ⟨rfl, rfl, rfl, by decide +kernel, rfl, by decide +kernel, by decide +kernel⟩
def d_law_out : He.DefD := ⟨("_law_out", none), "_law_out", "_law_out", defArgs st_law_out, defBody st_law_out, defScope st_law_out, [], []⟩
abbrev st_law_over : Stmt := top 77
abbrev N_law_over : List Str := ["_law_face", "_law_beside", "_law_steps_here", "_law_out_here", "_law_step"]
theorem sc_law_over : FnScope N_law_over ["_law_face", "_law_beside", "_law_steps_here"] (defScope st_law_over) := ⟨rfl, rfl, rfl, by decide +kernel, rfl, by decide +kernel, by decide +kernel⟩
def d_law_over : He.DefD := ⟨("_law_over", none), "_law_over", "_law_over", defArgs st_law_over, defBody st_law_over, defScope st_law_over, [], []⟩
abbrev st_law_across : Stmt := top 78
abbrev N_law_across : List Str := ["_law_face", "_law_steps_here", "_law_place", "_law_axes_here"]
theorem sc_law_across : FnScope N_law_across ["_law_face", "_law_steps_here", "_law_place"] (defScope st_law_across) := ⟨rfl, rfl, rfl, by decide +kernel, rfl, by decide +kernel, by decide +kernel⟩
def d_law_across : He.DefD := ⟨("_law_across", none), "_law_across", "_law_across", defArgs st_law_across, defBody st_law_across, defScope st_law_across, [], []⟩
abbrev st_law_pass : Stmt := top 79
abbrev N_law_pass : List Str := ["_law_sides", "_law_scale", "_law_many_here", "_law_place", "_law_steps_here", "_law_best", "_law_axis", "_law_gap", "_law_size", "_law_end", "_law_over_here"]
theorem sc_law_pass : FnScope N_law_pass ["_law_sides", "_law_scale", "_law_many_here", "_law_place", "_law_steps_here"] (defScope st_law_pass) := ⟨rfl, rfl, rfl, by decide +kernel, rfl, by decide +kernel, by decide +kernel⟩
def d_law_pass : He.DefD := ⟨("_law_pass", none), "_law_pass", "_law_pass", defArgs st_law_pass, defBody st_law_pass, defScope st_law_pass, [], []⟩
abbrev st_law_tuples : Stmt := top 80
abbrev N_law_tuples : List Str := ["_law_thing", "_law_item"]
theorem sc_law_tuples : FnScope N_law_tuples ["_law_thing"] (defScope st_law_tuples) := ⟨rfl, rfl, rfl, by decide +kernel, rfl, by decide +kernel, by decide +kernel⟩
def d_law_tuples : He.DefD := ⟨("_law_tuples", none), "_law_tuples", "_law_tuples", defArgs st_law_tuples, defBody st_law_tuples, defScope st_law_tuples, [], []⟩
abbrev st_law_is_int : Stmt := top 81
abbrev N_law_is_int : List Str := ["_law_thing"]
theorem sc_law_is_int : FnScope N_law_is_int ["_law_thing"] (defScope st_law_is_int) := ⟨rfl, rfl, rfl, by decide +kernel, rfl, by decide +kernel, by decide +kernel⟩
def d_law_is_int : He.DefD := ⟨("_law_is_int", none), "_law_is_int", "_law_is_int", defArgs st_law_is_int, defBody st_law_is_int, defScope st_law_is_int, [], []⟩
abbrev st_law_case : Stmt := top 82
abbrev N_law_case : List Str := ["_law_hand_here", "_law_sort", "_law_pool", "_law_axis"]
theorem sc_law_case : FnScope N_law_case ["_law_hand_here"] (defScope st_law_case) := ⟨rfl, rfl, rfl, by decide +kernel, rfl, by decide +kernel, by decide +kernel⟩
def d_law_case : He.DefD := ⟨("_law_case", none), "_law_case", "_law_case", defArgs st_law_case, defBody st_law_case, defScope st_law_case, [], []⟩
abbrev st_law_many : Stmt := top 83
abbrev N_law_many : List Str := ["_law_slope"]
theorem sc_law_many : FnScope N_law_many ["_law_slope"] (defScope st_law_many) := ⟨rfl, rfl, rfl, by decide +kernel, rfl, by decide +kernel, by decide +kernel⟩
def d_law_many : He.DefD := ⟨("_law_many", none), "_law_many", "_law_many", defArgs st_law_many, defBody st_law_many, defScope st_law_many, [], []⟩
abbrev st_law_spots : Stmt := top 84
abbrev N_law_spots : List Str := ["_law_sides", "_law_face", "_law_axes_here", "_law_out_here", "_law_k", "_law_spot"]
theorem sc_law_spots : FnScope N_law_spots ["_law_sides", "_law_face"] (defScope st_law_spots) := ⟨rfl, rfl, rfl, by decide +kernel, rfl, by decide +kernel, by decide +kernel⟩
def d_law_spots : He.DefD := ⟨("_law_spots", none), "_law_spots", "_law_spots", defArgs st_law_spots, defBody st_law_spots, defScope st_law_spots, [], []⟩
abbrev st_law_range : Stmt := top 85
abbrev N_law_range : List Str := ["_law_sides", "_law_face", "_law_steps_here", "_law_told", "_law_spot"]
theorem sc_law_range : FnScope N_law_range ["_law_sides", "_law_face", "_law_steps_here"] (defScope st_law_range) := ⟨rfl, rfl, rfl, by decide +kernel, rfl, by decide +kernel, by decide +kernel⟩
def d_law_range : He.DefD := ⟨("_law_range", none), "_law_range", "_law_range", defArgs st_law_range, defBody st_law_range, defScope st_law_range, [], []⟩
abbrev st_law_units : Stmt := top 86
abbrev N_law_units : List Str := ["_law_sides", "_law_slope", "_law_many_here", "_law_out_here", "_law_face", "_law_beside", "_law_along", "_law_steps_here", "_law_step", "_law_k", "_law_place", "_law_way"]
theorem sc_law_units : FnScope N_law_units ["_law_sides", "_law_slope"] (defScope st_law_units) := ⟨rfl, rfl, rfl, by decide +kernel, rfl, by decide +kernel, by decide +kernel⟩
def d_law_units : He.DefD := ⟨("_law_units", none), "_law_units", "_law_units", defArgs st_law_units, defBody st_law_units, defScope st_law_units, [], []⟩
abbrev st_law_unit_after : Stmt := top 87
abbrev N_law_unit_after : List Str := ["_law_sides", "_law_slope", "_law_key", "_law_place", "_law_many_here", "_law_end", "_law_length", "_law_beside", "_law_way"]
theorem sc_law_unit_after : FnScope N_law_unit_after ["_law_sides", "_law_slope", "_law_key", "_law_place"] (defScope st_law_unit_after) := ⟨rfl, rfl, rfl, by decide +kernel, rfl, by decide +kernel, by decide +kernel⟩
def d_law_unit_after : He.DefD := ⟨("_law_unit_after", none), "_law_unit_after", "_law_unit_after", defArgs st_law_unit_after, defBody st_law_unit_after, defScope st_law_unit_after, [], []⟩
abbrev st_law_strip_row : Stmt := top 88
abbrev N_law_strip_row : List Str := ["_law_told"]
theorem sc_law_strip_row : FnScope N_law_strip_row ["_law_told"] (defScope st_law_strip_row) := ⟨rfl, rfl, rfl, by decide +kernel, rfl, by decide +kernel, by decide +kernel⟩
def d_law_strip_row : He.DefD := ⟨("_law_strip_row", none), "_law_strip_row", "_law_strip_row", defArgs st_law_strip_row, defBody st_law_strip_row, defScope st_law_strip_row, [], []⟩
abbrev st_law_corner_on : Stmt := top 89
abbrev N_law_corner_on : List Str := ["_law_faces", "_law_corner", "_law_bits", "_law_face"]
theorem sc_law_corner_on : FnScope N_law_corner_on ["_law_faces"] (defScope st_law_corner_on) := ⟨rfl, rfl, rfl, by decide +kernel, rfl, by decide +kernel, by decide +kernel⟩
def d_law_corner_on : He.DefD := ⟨("_law_corner_on", none), "_law_corner_on", "_law_corner_on", defArgs st_law_corner_on, defBody st_law_corner_on, defScope st_law_corner_on, [], []⟩
abbrev st_law_strip_after : Stmt := top 90
abbrev N_law_strip_after : List Str := ["_law_sides", "_law_slope", "_law_units_here", "_law_row", "_law_face", "_law_steps_here", "_law_low", "_law_high", "_law_first", "_law_last"]
theorem sc_law_strip_after : FnScope N_law_strip_after ["_law_sides", "_law_slope", "_law_units_here", "_law_row"] (defScope st_law_strip_after) := ⟨rfl, rfl, rfl, by decide +kernel, rfl, by decide +kernel, by decide +kernel⟩
def d_law_strip_after : He.DefD := ⟨("_law_strip_after", none), "_law_strip_after", "_law_strip_after", defArgs st_law_strip_after, defBody st_law_strip_after, defScope st_law_strip_after, [], []⟩
abbrev st_law_strip_back : Stmt := top 91
abbrev N_law_strip_back : List Str := ["_law_row", "_law_step"]
theorem sc_law_strip_back : FnScope N_law_strip_back ["_law_row"] (defScope st_law_strip_back) := ⟨rfl, rfl, rfl, by decide +kernel, rfl, by decide +kernel, by decide +kernel⟩
def d_law_strip_back : He.DefD := ⟨("_law_strip_back", none), "_law_strip_back", "_law_strip_back", defArgs st_law_strip_back, defBody st_law_strip_back, defScope st_law_strip_back, [], []⟩
abbrev st_law_strip_before : Stmt := top 92
abbrev N_law_strip_before : List Str := ["_law_sides", "_law_slope", "_law_units_here", "_law_row", "_law_due"]
theorem sc_law_strip_before : FnScope N_law_strip_before ["_law_sides", "_law_slope", "_law_units_here", "_law_row"] (defScope st_law_strip_before) := ⟨rfl, rfl, rfl, by decide +kernel, rfl, by decide +kernel, by decide +kernel⟩
def d_law_strip_before : He.DefD := ⟨("_law_strip_before", none), "_law_strip_before", "_law_strip_before", defArgs st_law_strip_before, defBody st_law_strip_before, defScope st_law_strip_before, [], []⟩
abbrev st_law_some_strip : Stmt := top 93
abbrev N_law_some_strip : List Str := ["_law_hand_here", "_law_sides", "_law_slope", "_law_face", "_law_steps_here", "_law_least", "_law_greatest", "_law_low", "_law_many_here"]
theorem sc_law_some_strip : FnScope N_law_some_strip ["_law_hand_here", "_law_sides", "_law_slope"] (defScope st_law_some_strip) := ⟨rfl, rfl, rfl, by decide +kernel, rfl, by decide +kernel, by decide +kernel⟩
def d_law_some_strip : He.DefD := ⟨("_law_some_strip", none), "_law_some_strip", "_law_some_strip", defArgs st_law_some_strip, defBody st_law_some_strip, defScope st_law_some_strip, [], []⟩
abbrev st_law_as_strip : Stmt := top 94
abbrev N_law_as_strip : List Str := ["_law_row"]
theorem sc_law_as_strip : FnScope N_law_as_strip ["_law_row"] (defScope st_law_as_strip) := ⟨rfl, rfl, rfl, by decide +kernel, rfl, by decide +kernel, by decide +kernel⟩
def d_law_as_strip : He.DefD := ⟨("_law_as_strip", none), "_law_as_strip", "_law_as_strip", defArgs st_law_as_strip, defBody st_law_as_strip, defScope st_law_as_strip, [], []⟩
abbrev st_law_gone : Stmt := top 95
abbrev N_law_gone : List Str := ["_law_told"]
theorem sc_law_gone : FnScope N_law_gone ["_law_told"] (defScope st_law_gone) := ⟨rfl, rfl, rfl, by decide +kernel, rfl, by decide +kernel, by decide +kernel⟩
def d_law_gone : He.DefD := ⟨("_law_gone", none), "_law_gone", "_law_gone", defArgs st_law_gone, defBody st_law_gone, defScope st_law_gone, [], []⟩
abbrev st_law_steps_right : Stmt := top 96
abbrev N_law_steps_right : List Str := ["_law_box", "_law_sides", "_law_slope", "_law_units_here", "_law_row", "_law_after", "_law_before"]
theorem sc_law_steps_right : FnScope N_law_steps_right ["_law_box", "_law_sides", "_law_slope", "_law_units_here", "_law_row"] (defScope st_law_steps_right) := ⟨rfl, rfl, rfl, by decide +kernel, rfl, by decide +kernel, by decide +kernel⟩
def d_law_steps_right : He.DefD := ⟨("_law_steps_right", none), "_law_steps_right", "_law_steps_right", defArgs st_law_steps_right, defBody st_law_steps_right, defScope st_law_steps_right, [], []⟩
abbrev st_law_refused : Stmt := top 97
abbrev N_law_refused : List Str := ["_law_box", "_law_strip", "_law_way", "_law_word", "raised"]
theorem sc_law_refused : FnScope N_law_refused ["_law_box", "_law_strip", "_law_way"] (defScope st_law_refused) := ⟨rfl, rfl, rfl, by decide +kernel, rfl, by decide +kernel, by decide +kernel⟩
def d_law_refused : He.DefD := ⟨("_law_refused", none), "_law_refused", "_law_refused", defArgs st_law_refused, defBody st_law_refused, defScope st_law_refused, [], []⟩
abbrev st_law_spoilt : Stmt := top 98
abbrev N_law_spoilt : List Str := ["_law_hand_here", "_law_sides", "_law_row", "_law_face", "_law_steps_here", "_law_low", "_law_high", "_law_least", "_law_greatest", "_law_sort", "_law_off", "_law_bad_steps", "_law_bad_face", "_law_bad_low", "_law_bad_high", "_law_bits", "_law_told", "_law_dues", "_law_due", "_law_k", "_law_step"]
theorem sc_law_spoilt : FnScope N_law_spoilt ["_law_hand_here", "_law_sides", "_law_row"] (defScope st_law_spoilt) := ⟨rfl, rfl, rfl, by decide +kernel, rfl, by decide +kernel, by decide +kernel⟩
def d_law_spoilt : He.DefD := ⟨("_law_spoilt", none), "_law_spoilt", "_law_spoilt", defArgs st_law_spoilt, defBody st_law_spoilt, defScope st_law_spoilt, [], []⟩
abbrev st_law_range_refused : Stmt := top 99
abbrev N_law_range_refused : List Str := ["_law_box", "_law_face", "_law_steps_here", "_law_word", "raised"]
theorem sc_law_range_refused : FnScope N_law_range_refused ["_law_box", "_law_face", "_law_steps_here"] (defScope st_law_range_refused) := ⟨rfl, rfl, rfl, by decide +kernel, rfl, by decide +kernel, by decide +kernel⟩
def d_law_range_refused : He.DefD := ⟨("_law_range_refused", none), "_law_range_refused", "_law_range_refused", defArgs st_law_range_refused, defBody st_law_range_refused, defScope st_law_range_refused, [], []⟩
abbrev st_law_equal_right : Stmt := top 100
abbrev N_law_equal_right : List Str := ["_law_row", "_law_one", "_law_others", "_law_other"]
theorem sc_law_equal_right : FnScope N_law_equal_right ["_law_row"] (defScope st_law_equal_right) := ⟨rfl, rfl, rfl, by decide +kernel, rfl, by decide +kernel, by decide +kernel⟩
def d_law_equal_right : He.DefD := ⟨("_law_equal_right", none), "_law_equal_right", "_law_equal_right", defArgs st_law_equal_right, defBody st_law_equal_right, defScope st_law_equal_right, [], []⟩
abbrev st_law : Stmt := top 101
abbrev N_law : List Str := ["_law_script", "_law_hand_here", "_law_sides", "_law_slope", "_law_box", "_law_units_here", "_law_face", "_law_steps_here", "_law_told", "_law_low", "_law_turn", "_law_row", "_law_strip", "_law_due", "_law_bad", "_law_off", "_law_words"]
theorem sc_law : FnScope N_law ["_law_script"] (defScope st_law) := ⟨rfl, rfl, rfl, by decide +kernel, rfl, by decide +kernel, by decide +kernel⟩
def d_law : He.DefD := ⟨("law", none), "law", "law", defArgs st_law, defBody st_law, defScope st_law, [], []⟩
def fnL : List He.DefD := [d_BadFaceInit, d_BadDirectionInit, d_BadStripInit, d_is_whole, d_check_face, d_check_corner, d_face_axes, d_faces_beside, d_corner_bits, d_faces_of_corner, d_BoxInit, d_framed, d_check_direction, d_outward_step, d_StripInit, d_StripEq, d_SplitInit, d_SplitEq, d_measure_at, d_face_level, d_edge_ends, d_sideways_range, d_check_strip, d_leaving_faces, d_turned_back, d_gone_over, d_onward, d_split_ahead, d_strip_after, d_strip_before, d_lane_of_strip, d_law_hand, d_law_mixed, d_law_take, d_law_axes, d_law_steps, d_law_four, d_law_out, d_law_over, d_law_across, d_law_pass, d_law_tuples, d_law_is_int, d_law_case, d_law_many, d_law_spots, d_law_range, d_law_units, d_law_unit_after, d_law_strip_row, d_law_corner_on, d_law_strip_after, d_law_strip_back, d_law_strip_before, d_law_some_strip, d_law_as_strip, d_law_gone, d_law_steps_right, d_law_refused, d_law_spoilt, d_law_range_refused, d_law_equal_right, d_law]
def faL : List He.Fa := [.glo "is_whole", .glo "check_face", .glo "check_corner", .glo "face_axes", .glo "faces_beside", .glo "corner_bits", .glo "faces_of_corner", .glo "framed", .glo "check_direction", .glo "outward_step", .glo "measure_at", .glo "face_level", .glo "edge_ends", .glo "sideways_range", .glo "check_strip", .glo "leaving_faces", .glo "turned_back", .glo "gone_over", .glo "onward", .glo "split_ahead", .glo "strip_after", .glo "strip_before", .glo "lane_of_strip", .glo "_law_hand", .glo "_law_mixed", .glo "_law_take", .glo "_law_axes", .glo "_law_steps", .glo "_law_four", .glo "_law_out", .glo "_law_over", .glo "_law_across", .glo "_law_pass", .glo "_law_tuples", .glo "_law_is_int", .glo "_law_case", .glo "_law_many", .glo "_law_spots", .glo "_law_range", .glo "_law_units", .glo "_law_unit_after", .glo "_law_strip_row", .glo "_law_corner_on", .glo "_law_strip_after", .glo "_law_strip_back", .glo "_law_strip_before", .glo "_law_some_strip", .glo "_law_as_strip", .glo "_law_gone", .glo "_law_steps_right", .glo "_law_refused", .glo "_law_spoilt", .glo "_law_range_refused", .glo "_law_equal_right", .glo "law", .glo "BadFace", .glo "BadDirection", .glo "BadStrip", .glo "Box", .glo "Strip", .glo "Split", .glo "ParcelError", .glo "FRAMES", .free "isinstance", .free "bool", .free "int", .free "list", .free "tuple", .free "len", .free "range", .free "min", .free "max", .free "sorted", .free "enumerate", .free "abs", .int "MOST_SIDE" 60, .int "MOST_STEP" 10000, .cls "Box", .cls "Strip", .cls "Split", .mkr "Box", .mkr "Strip", .mkr "Split", .noat "Box" "sides", .noat "Strip" "face", .noat "Strip" "direction", .noat "Strip" "low", .noat "Strip" "high", .noat "Split" "corner", .meth "Strip" "__eq__", .meth "Split" "__eq__", .meth "BadFace" "__init__", .meth "BadDirection" "__init__", .meth "BadStrip" "__init__", .noat "BadFace" "face", .noat "BadDirection" "what", .noat "BadStrip" "what", .keep "BadFace", .keep "BadDirection", .keep "BadStrip", .exm "BadFace" "BadFace" true, .exm "BadFace" "BadDirection" false, .exm "BadFace" "BadStrip" false, .exm "BadDirection" "BadFace" false, .exm "BadDirection" "BadDirection" true, .exm "BadDirection" "BadStrip" false, .exm "BadStrip" "BadFace" false, .exm "BadStrip" "BadDirection" false, .exm "BadStrip" "BadStrip" true]
/-! ### what else is asked -/
mutual
def dpB (K : PySem.W.Frag) : Value → PyData → Bool
  | .int i _, .int j => decide (i = j)
  | .ref a, .tuple ds => (match K.lookup a with
    | some ⟨.type c, _, .seq its _, _⟩ => decide (c = "tuple") && (decide (its.size ≤ sizeLine) && dpsB K its.toList ds)
    | _ => false)
  | _, _ => false
def dpsB (K : PySem.W.Frag) : List Value → List PyData → Bool
  | [], [] => true
  | u :: us, d :: ds => dpB K u d && dpsB K us ds
  | _, _ => false
end
def framesD : PyData := .tuple [.tuple [.int 2, .int 1], .tuple [.int 1, .int 2], .tuple [.int 0, .int 2], .tuple [.int 2, .int 0], .tuple [.int 1, .int 0], .tuple [.int 0, .int 1]]
/-- a class object as it is made: its chain p, its names q, its maker -/
def clsB (K : PySem.W.Frag) (C : Addr) (p : List Value → Bool) (q : Addr → Bool) (newId : String) : Bool := match K.lookup C with
  | some ⟨.type c, _, .cls cd, sl⟩ => (match cd.mro, sl.toList with
    | .ref C' :: bm, [_, _, _, _, some (.builtin n), _] => decide (c = "type") && (decide (C' = C) && (decide (n = newId) && (!cd.hasDel && (cd.hasDict && (p bm && q cd.ns)))))
    | _, _ => false)
  | _ => false
def oexB (K : PySem.W.Frag) (x : Str) : Bool := clsB K (He.ga K x) PySem.HandSPX.refsVE (fun _ => true) "ValueError.__new__" && (He.eqO (PySem.W.findIn K (.ref (He.ga K x)) "__setattr__") (some (some (.builtin "object.__setattr__"))) && (decide (PySem.W.subIn K (.ref (He.ga K x)) (.type "BaseException") = some true) &&
  (decide (PySem.W.typeIn K (.ref (He.ga K x)) = some (.type "type")) && xfB K (He.ga K x))))
def objB (K : PySem.W.Frag) (x : Str) : Bool := clsB K (He.ga K x) (fun bm => decide (bm = [.type "object"])) (fun N => PySem.W.nsOkIn K N && (He.eqO (PySem.W.nsIn K N "__eq__") (some (some (.ref (He.ma K (He.ga K x) "__eq__")))) && He.eqO (PySem.W.nsIn K N "__ne__") (some none))) "object.__new__"
def insB (K : PySem.W.Frag) (x : Str) : Bool := He.eqO (PySem.W.findIn K (.ref (He.ga K x)) "__class__") (some (some (.builtin "object.__class__"))) && (He.eqO (PySem.W.specialIn K (.builtin "object.__class__") "__get__") (some (some (.builtin "getset_descriptor.__get__"))) &&
  (decide (PySem.W.takesIn K (.builtin "object.__class__") = some true) && decide (PySem.W.mroIn K (He.ga K x) (.type "object") = some true)))
def kitB2 (K : PySem.W.Frag) (x y : Str) (b : Bool) : Bool := decide (PySem.W.kitOne K (.ref (He.ga K x)) (.ref (He.ga K y)) = some b)
def exB (K : PySem.W.Frag) : Bool :=
  (match PySem.W.nsIn K mainGlobals "gcd" with
    | some (some (.builtin n)) => decide (n = "math.gcd")
    | _ => false) && (dpB K (.ref (He.ga K "FRAMES")) framesD && (oexB K "BadFace" && (oexB K "BadDirection" && (oexB K "BadStrip" && (objB K "Strip" && (insB K "Strip" && (insB K "Split" &&
  (kitB2 K "Strip" "Strip" true && (kitB2 K "Strip" "Split" false && (kitB2 K "Split" "Strip" false && (kitB2 K "Split" "Split" true && (PySem.W.notFirst K (He.ga K "Strip") (.ref (He.ga K "Split")) && PySem.W.notFirst K (He.ga K "Split") (.ref (He.ga K "Strip"))))))))))))))
end K27
set_option maxHeartbeats 0
namespace K27h
open PySem PySem.Spec PyProof.Rows L2 K27
def nm0 : List PySem.Str := ["_wall", "ParcelError", "BadBox", "BadCorner", "BadFace", "BadDirection", "TooMany", "BadFaceRow", "BadStrip", "NoLane", "ZERO", "is_whole", "in_lowest", "plus", "sum_of", "MOST_SIDE", "FRAMES", "check_face", "check_corner", "face_axes", "faces_beside", "corner_bits", "faces_of_corner", "Box", "framed", "MOST_STEP", "check_direction", "outward_step", "check_facerow"]
def nm1 : List PySem.Str := ["back_row", "least_begun", "least_row", "turn_couple", "slope_to", "Lane", "MOST_FACES", "Strip", "Split", "measure_at", "face_level", "edge_ends", "sideways_range", "check_strip", "leaving_faces", "turned_back", "gone_over", "onward", "split_ahead", "strip_after", "strip_before", "strips_round", "widened", "edge_number", "middle_length", "least_turn", "lane_of_ring", "ring_lengths", "ring_length", "lane_of_strip"]
def nm2 : List PySem.Str := ["_law_hand", "_law_mixed", "_law_take", "_law_axes", "_law_steps", "_law_four", "_law_out", "_law_over", "_law_across", "_law_pass", "_law_tuples", "_law_is_int", "_law_case", "_law_many", "_law_spots", "_law_range", "_law_units", "_law_unit_after", "_law_strip_row", "_law_corner_on", "_law_strip_after", "_law_strip_back", "_law_strip_before", "_law_some_strip", "_law_as_strip", "_law_gone", "_law_steps_right", "_law_refused", "_law_spoilt", "_law_range_refused"]
def nm3 : List PySem.Str := ["_law_equal_right"]
def nms : List PySem.Str := nm0 ++ nm1 ++ nm2 ++ nm3
abbrev R : PySem.W.OpenRow := PySem.W.OpenLaw.row PySem.Challenge.rw_tautparcel_k27_whole_strips_go_on_and_co
def asR (n : Nat) : List Addr := mainGlobals :: (List.range n).reverse
def obsR (n : Nat) (fa : List He.Fa) (fn : List He.DefD) (ex : PySem.W.Frag → Bool) (g : Addr → Option Obj) : He.AlD × Bool := (He.obsD fa fn (He.frG g (asR n)), ex (He.frG g (asR n)))
def hkR (n : Nat) (fa : List He.Fa) (fn : List He.DefD) (ex : PySem.W.Frag → Bool) : PySem.W.Hook where
  α := He.AlD × Bool
  obs := fun s => obsR n fa fn ex s.heap.get?
  val := fun _ => (He.valD fn, true)
  says := fun _ h => ∃ K : PySem.W.Frag, K.In h ∧ He.SaysD fa fn K ∧ ex K = true
  of := fun _ _ e => ⟨_, He.frG_in, congrArg (fun z : He.AlD × Bool => z.1) e, congrArg (fun z : He.AlD × Bool => z.2) e⟩
  keeps := fun _ _ _ ⟨K, hK, c⟩ k => ⟨K, PySem.W.Frag.In.keeps hK k, c⟩
abbrev hk : PySem.W.Hook := hkR 900 faL fnL exB
def ob (s : PySem.W.SharedT) : He.AlD × Bool := obsR 900 faL fnL exB (HandSHeadRun.getT s)
theorem ob_eq (s : PySem.W.SharedT) : ob s = hk.obs s.abs := by
  have e : HandSHeadRun.getT s = s.abs.heap.get? := funext (HandSHeadRun.getT_eq s)
  show obsR 900 faL fnL exB (HandSHeadRun.getT s) = obsR 900 faL fnL exB s.abs.heap.get?
  rw [e]
/-! the run, looked at in four parts -/
noncomputable abbrev Wh (w : World) : Option (Shared × PySem.W.SharedT) := HandSHeadRun.wholeF (fun p => HandSHeadRun.stepQ (HandSHeadRun.denQ HandSHeadRun.tabQ) p w) HandSHeadRun.fenceQ 7500 R.prog
def Kx (s : PySem.W.SharedT) : PySem.W.Frag := He.frG (HandSHeadRun.getT s) (asR 900)
def fnA : List He.DefD := fnL.take 31
def fnB : List He.DefD := fnL.drop 31
theorem fn_AB : fnA ++ fnB = fnL := List.take_append_drop 31 fnL
theorem run_a (w : World) : (Wh w).map (fun x => HandSHeadRun.looksF R.prog x.1.heap x.2.abs) = some true := by
  kernel_rfl
theorem run_b (w : World) : (Wh w).map (fun x => HandSHeadRun.seenQ (PySem.W.view R.prog [0, 101]) nms (importedModules R.prog.main.body) (fun s => PySem.W.xlAt (PySem.W.view R.prog [0, 101]) [] s && PySem.W.recOk R.toRowW.records s) x.2.abs) = some (PySem.W.openGood (PySem.W.view R.prog [0, 101]) nms) := by
  kernel_rfl
theorem run_c (w : World) : (Wh w).map (fun x => (((faL.all fun f => f.ok (Kx x.2)) && (fnA.all fun d => d.ok (Kx x.2)), fnA.map fun d => He.fnW (Kx x.2) d.at_), exB (Kx x.2))) = some ((true, fnA.map He.DefD.val), true) := by
  kernel_rfl
theorem run_d (w : World) : (Wh w).map (fun x => (fnB.all fun d => d.ok (Kx x.2), fnB.map fun d => He.fnW (Kx x.2) d.at_)) = some (true, fnB.map He.DefD.val) := by
  kernel_rfl
theorem obs_join {fa : List He.Fa} {f1 f2 : List He.DefD} {K : PySem.W.Frag} (h1 : ((fa.all fun f => f.ok K) && (f1.all fun d => d.ok K)) = true) (m1 : (f1.map fun d => He.fnW K d.at_) = f1.map He.DefD.val) (h2 : (f2.all fun d => d.ok K) = true) (m2 : (f2.map fun d => He.fnW K d.at_) = f2.map He.DefD.val) : He.obsD fa (f1 ++ f2) K = He.valD (f1 ++ f2) := by
  show ((fa.all fun f => f.ok K) && (f1 ++ f2).all fun d => d.ok K, (f1 ++ f2).map fun d => He.fnW K d.at_) = (true, (f1 ++ f2).map He.DefD.val)
  rw [List.all_append, List.map_append, List.map_append, m1, m2, h2, Bool.and_true, h1]
theorem run_of {w : World} {A B : Type} {f : Shared × PySem.W.SharedT → A} {g : Shared × PySem.W.SharedT → B} {va : A} {vb : B} (o : Option (Shared × PySem.W.SharedT)) (a : o.map f = some va) (b : o.map g = some vb)
    (c : o.map (fun x => (((faL.all fun f => f.ok (Kx x.2)) && (fnA.all fun d => d.ok (Kx x.2)), fnA.map fun d => He.fnW (Kx x.2) d.at_), exB (Kx x.2))) = some ((true, fnA.map He.DefD.val), true))
    (d : o.map (fun x => (fnB.all fun d => d.ok (Kx x.2), fnB.map fun d => He.fnW (Kx x.2) d.at_)) = some (true, fnB.map He.DefD.val)) :
    o.map (fun x => (f x, g x, ob x.2)) = some (va, vb, (He.valD fnL, true)) := by
  cases o with
  | none => cases a
  | some x =>
    have a := Option.some.inj a
    have b := Option.some.inj b
    have c := Option.some.inj c
    have d := Option.some.inj d
    obtain ⟨c1, c2⟩ := Prod.mk.inj c
    obtain ⟨c1, c3⟩ := Prod.mk.inj c1
    obtain ⟨d1, d2⟩ := Prod.mk.inj d
    have e : He.obsD faL fnL (Kx x.2) = He.valD fnL := by
      rw [← fn_AB]
      exact obs_join c1 c3 d1 d2
    have e2 : ob x.2 = (He.valD fnL, true) := Prod.ext e c2
    show some (f x, g x, ob x.2) = _
    rw [e2, a, b]
theorem run (w : World) : HandSHeadRun.RunEqI R (PySem.W.view R.prog [0, 101]) hk ob 7500 nms w := by
  unfold HandSHeadRun.RunEqI
  exact run_of (w := w) _ (run_a w) (run_b w) (run_c w) (run_d w)
end K27h
set_option maxHeartbeats 0
/-! The row's other looks, ahead of the walk. -/
namespace K27h
open PySem PySem.W PySem.Calls PyProof.Rows
theorem fin (hc : WalkO (view R.prog [0, 101]) nms (XL (view R.prog [0, 101]) []) hk.says R.toRowW (HandSHeadRun.topDef R.prog 101) [] fun f vs => PySem.call f vs) : PySem.Challenge.rw_tautparcel_k27_whole_strips_go_on_and_co.Holds := by
  w_on; o_law
  refine HandSHeadRun.head_imp (r := R) (q := view R.prog [0, 101]) (H := K27h.hk) (ob := K27h.ob) (M := 7500) (loose := K27h.nms) (d := HandSHeadRun.topDef R.prog 101) (kwd := []) K27h.ob_eq
    K27h.run (by kernel_rfl) (by kernel_rfl) (by kernel_rfl) (by rfl) (by assumption) (by decide +kernel) ⟨rfl, rfl, rfl, rfl, rfl, by decide +kernel⟩ ?hw hc
  case hw => w_witness2
end K27h
set_option maxHeartbeats 4000000
/-! More rules: list + list, extend, sorted, enumerate. -/
namespace K27
open PySem PySem.Spec PyProof.Rows L2

theorem list_extend_tupW (l : Addr) (items : Array Value) (n : Nat) (b : Addr) (items2 : Array Value) (n2 : Nat) (dd2 : Option Addr) (sl2 : Array (Option Value)) (hs0 : ¬(!items.isEmpty && Builtin.List.listTooLong (items.size + items2.size)) = true) (hs1 : items.size ≤ sizeLine) (hs2 : items.size + items2.size ≤ sizeLine + 1) :
    Meets (Builtin.«list.extend» ⟨[.ref l, .ref b], []⟩) (fun _ R s => s.heap.get? l = some { cls := .type "list", dict := none, data := .seq items n, slots := #[] } ∧ s.heap.get? b = some { cls := .type "tuple", dict := dd2, data := .seq items2 n2, slots := sl2 } ∧ R (.ok (.ret Value.none)) { s with heap := s.heap.update l (Obj.mapSeq fun x => x ++ items2), toks := s.toks }) :=
  .of_wp fun prog w A R s h => by
    obtain ⟨hp, g, d, tk, os⟩ := s
    obtain ⟨hl, hb, h⟩ := h
    have f1 := AutoSeq1.idx_int
    have f2 := AutoSeq1.sub_tuple_tuple
    have f3 := AutoSeq1.sub_list_list
    have f4 := AutoSeq1.sub_tuple_list
    have f5 := AutoSeq1.sub_list_tuple
    have hz' : (items ++ items2).size ≤ sizeLine + 1 := by rw [Array.size_append]; exact hs2
    wp_walk using (PySem.wpAny_updateSeq hl rfl (hz := hs1) (_hz' := hz')), AutoSeq1.wpAny_loadPart' hl, AutoSeq1.wpAny_loadPart' hb
    exact ⟨_, rfl, h⟩
def rExtT (K : PySem.W.Frag) : V → List V → Hp → VK → Prop := fun x vs H Q => ∃ l b xs zs, x = .ref l ∧ vs = [.ref b] ∧ H l = some (.lst xs) ∧ SqT K H b zs ∧ xs.length + zs.length ≤ sizeLine ∧ Q .non (upd H l (.lst (xs ++ zs)))
section
variable {X : Cx}
theorem mt_extT : MtM X "list.extend" (rExtT X.K) := by
  intro pins s σ H x vs v us Q I rx rv h
  obtain ⟨l, b, xs, zs, rfl, rfl, hH, hB, hz, q⟩ := h
  cases rx
  obtain ⟨u, rfl, ru⟩ := rv.one
  cases ru
  obtain ⟨z, its, n, r, hl, e⟩ := I.lstM hH
  obtain ⟨its2, r2, ht, hz2⟩ := I.tuple hB
  obtain ⟨⟨cls2, dd2, data2, sl2⟩, ho2, hc2, n2, hd2⟩ := id ht
  simp only at hc2 hd2
  subst hc2 hd2
  have hl2 := r2.length
  have hsz : its.toArray.size + its2.toArray.size ≤ sizeLine := by rw [List.size_toArray, List.size_toArray]; omega
  have hlong : ¬ (!its.toArray.isEmpty && Builtin.List.listTooLong (its.toArray.size + its2.toArray.size)) = true := by
    rw [notLongL hsz, Bool.and_false]
    exact Bool.false_ne_true
  refine call_meets F.slot_list_extend ⟨_, e, rfl⟩ F.entry_list_extend (F.args_list_extend_2 _ _)
    (list_extend_tupW l its.toArray n b its2.toArray n2 dd2 sl2 hlong (by rw [List.size_toArray]; omega) (by omega)) ⟨e, ho2, ?_⟩
  refine ⟨.non, _, I.lset (its' := its ++ its2) hH e (by simp) (r.append r2) ?_, rfl, q⟩
  rw [List.length_append]
  omega
def rCatS (K : PySem.W.Frag) : R2 := fun x y H Q => ∃ l b xs zs, x = .ref l ∧ y = .ref b ∧ SqL K H l xs ∧ SqL K H b zs ∧ xs.length + zs.length ≤ sizeLine ∧ ∀ p, H p = none → Q (.ref p) (upd H p (.lst (xs ++ zs)))
theorem op_catS : OpR X (binaryOp .Add) (rCatS X.K) := by
  intro pins s σ H x y v u Q I rx ry h
  obtain ⟨l, b, xs, zs, rfl, rfl, hH, hB, hz, q⟩ := h
  cases rx
  cases ry
  obtain ⟨its, r, p1, _⟩ := I.list hH
  obtain ⟨its2, r2, p2, _⟩ := I.list hB
  obtain ⟨⟨cls, dd, data, sl⟩, n, ho, hc, hdd, hd⟩ := p1
  obtain ⟨⟨cls2, dd2, data2, sl2⟩, n2, ho2, hc2, hdd2, hd2⟩ := p2
  simp only at hc hdd hd hc2 hdd2 hd2
  subst hc hd hc2 hd2
  have l1 := r.length
  have l2 := r2.length
  refine concat_meets ⟨_, ho, rfl⟩ ⟨_, ho2, rfl⟩ noFill_list_add seq_list_add F.slot_list_add F.entry_list_add (F.args_list_add_2 _ _) (list_addW l b its.toArray its2.toArray n n2 dd dd2 sl sl2 (by rw [List.size_toArray, List.size_toArray]; omega)) ⟨ho, ho2, ?_⟩
  have ea : its.toArray ++ its2.toArray = (its ++ its2).toArray := by simp
  rw [ea]
  exact ⟨.ref _, _, I.lnew (t' := s.toks) (r.append r2) (by rw [List.length_append]; omega), rfl, q _ I.fresh⟩
end
section
variable {X : Cx} {M : Option Addr} {E : XK} {Γ : Gm} {P : O → Prop} {a b e : Expr} {body : List Stmt} {pos p p2 : Pos} {x : Str}
/-- a new list behind anything -/
theorem newL {Z : Zt} {B0 H0 B H B1 H1 : Hp} {σ : L2.St} {pp : Addr} {vs : List V} (g1 : Gr Z.M B H B1 H1) (o1 : Ok Z B0 H0 B1 H1 σ Γ) (hp : H1 pp = none) : Gr Z.M B H B1 (upd H1 pp (.lst vs)) ∧ Ok Z B0 H0 B1 (upd H1 pp (.lst vs)) σ Γ ∧ H pp = none ∧ B1 pp = none ∧ Z.M ≠ some pp := by
  have hb : B1 pp = none := o1.bh.free hp
  have hm : Z.M ≠ some pp := fun z => by
    obtain ⟨_, c, cells, pos, rest, tot, q, _⟩ := o1.hand pp z
    rw [hp] at q
    cases q
  have hH : H pp = none := by
    cases q : H pp with
    | none => rfl
    | some w => exact absurd hp (g1.al pp (by rw [q]; simp))
  have g : Gr Z.M B1 H1 B1 (upd H1 pp (.lst vs)) := ⟨Same.refl _, fun a w z => by rw [upd_ne (ne_of_none z hb)]; exact o1.bh a w z, fun a w _ z => by rw [upd_ne (ne_of_none z hp)]; exact z, fun a z => .inl z, fun a z => by
    by_cases q : a = pp
    · subst q
      exact absurd hp z
    · rw [upd_ne q]
      exact z⟩
  have hd1 : HandM Z B1 (upd H1 pp (.lst vs)) := fun a z => by
    obtain ⟨nb, c, cells, pos, rest, tot, q, q2⟩ := o1.hand a z
    exact ⟨nb, c, cells, pos, rest, tot, by rw [upd_ne (ne_of_none q hp)]; exact q, q2⟩
  exact ⟨g1.trans g, o1.growM g hd1, hH, hb, hm⟩
theorem n_cat {ds es : List PyData} (ha : PE X a (tD (zx X M) Γ (fun y => y = .d (.list ds)))) (hb : PE X b (tD (zx X M) Γ (fun y => y = .d (.list es)))) (hl : ds.length + es.length ≤ 1000) : PE X (.BinOp a .Add b pos) (tN (zx X M) Γ (fun l => l = ds ++ es)) :=
  pe_imp (pe_op op_catS ha hb) fun σ H Q ⟨B0, H0, B, o, k⟩ => ⟨B0, H0, B, o, fun u r B1 H1 hr g1 o1 hu => by
    subst hr
    refine ⟨B0, H0, B1, o1, fun v r B2 H2 hr g2 o2 hv => ?_⟩
    subst hr
    obtain ⟨l, xs, rfl, h1, h2⟩ := dpl (dp_mono g2.bb _ _ hu)
    obtain ⟨l2, ys, rfl, h3, h4⟩ := dpl hv
    refine ⟨l, l2, xs, ys, rfl, rfl, o2.bh.seq h1, o2.bh.seq h3, by rw [dpall_len h2, dpall_len h4]; exact Nat.le_of_lt (small1000 hl), fun p hp => ?_⟩
    obtain ⟨g, o3, e1, e2, e3⟩ := newL (g1.trans g2) o2 hp
    exact k p _ _ B2 _ rfl g o3 e1 e2 e3 upd_same (dpall_app h2 h4)⟩
theorem n_sorted {ns srt : List Int} (hm : X.mg x = none) (h1 : srt.Perm ns) (h2 : srt.Pairwise (· ≤ ·)) (hv : bootBuiltins x = some (.builtin "sorted")) (ha : PE X a (tD (zx X M) Γ (fun y => y = .d (.list (ns.map PyData.int))))) (hl : ns.length < 64) (hg : Gl X x := by rfl) (hn : x ≠ "__name__" := by decide) (hdb : (x == ("__debug__" : Str)) = false := by decide)
    (hs : starEach [a] X.env = (false, eval a X.env) :: starEach [] X.env := by rfl) (hpl : (backTo pos (starEach [] X.env)).any (·.1) = false := by rfl) : PE X (.Call (.Name x p) [a] [] pos) (tN (zx X M) Γ (fun l => l = srt.map PyData.int)) :=
  pe_imp (pe_callB cr_sorted hg hm hv (xa_cons ha xa_nil hs) hn hdb hs hpl) fun σ H Q ⟨B0, H0, B, o, k⟩ => ⟨B0, H0, B, o, fun vs rs B1 H1 hd g1 o1 hvs => by
    subst hd
    obtain ⟨v, rfl, q1⟩ := vs1 hvs
    obtain ⟨a, ws, rfl, q2, q3⟩ := dpl q1
    have e := dpall_ints hm q3
    subst e
    refine ⟨a, ns, rfl, o1.bh.seq q2, hl, fun ns' p r1 r2 hp => ?_⟩
    have e : ns' = srt := (r1.trans h1.symm).eq_of_pairwise (fun x y _ _ h1 h2 => Int.le_antisymm h1 h2) r2 h2
    subst e
    obtain ⟨g, o3, e1, e2, e3⟩ := newL g1 o1 hp
    exact k p _ _ B1 _ rfl g o3 e1 e2 e3 upd_same (dpall_of_ints hm ns')⟩
/-- xs.extend(t) -/
theorem s_extT (j : Nat) {ds es : List PyData} {q : Pos} (he : PE X e (tD (zx X M) Γ (fun r => r = .d (.tuple es)))) (hz : ds.length + es.length ≤ 1000) (h : P (.nx (Γ.set j (some (.mu (ds ++ es)))))) (hG : Γ[j]? = some (some (.mu ds)) := by rfl)
    (hN : X.N[j]? = some x := by rfl) (hv : Vis X.env.scope x := by first | exact Or.inl rfl | exact Or.inr (Or.inl rfl) | exact Or.inr (Or.inr rfl)) (hd : (x == ("__debug__" : Str)) = false := by decide) (hcd : (x == ("__classdict__" : Str)) = false := by decide)
    (hes : starEach [e] X.env = (false, eval e X.env) :: starEach [] X.env := by rfl) (hbase : attributeBase (.Name x q) "extend" X.env (eval (.Name x q) X.env) = eval (.Name x q) X.env := by rfl)
    (hfew : ((backTo p2 (starEach [e] X.env)).all (fun x => !x.1) && (backToKw p2 (keywordEach [] X.env)).all (fun x => x.1.isSome) && decide ([e].length + ([] : List Keyword).length + (if ([] : List Keyword).isEmpty then 0 else 1) < 30)) = true := by rfl)
    (hline : (p.endLine == p2.line) = true := by rfl) (hplain : (backTo p2 (starEach [] X.env)).any (·.1) = false := by rfl)
    (hs : swapsWith (.Call (.Attribute (.Name x q) "extend" p) [e] [] p2) none pos.line X.env = pure false := by rfl) : PS X (.Expr (.Call (.Attribute (.Name x q) "extend" p) [e] [] p2) pos) (tO (zx X M) E Γ P) :=
  ps_imp (ps_expr (pe_bm PySem.F.plainAttrs_list PySem.F.slot_list_extend PySem.F.type_list_extend mt_extT (pv j hN hv hd hcd) (pa_cons he pa_nil hes) hbase hfew hline hes hplain) hs) fun D σ H ⟨B0, H0, B, o, k⟩ => by
    obtain ⟨l, vs, q1, q2, _, _⟩ := v_mu o hG
    refine ⟨.ref l, q1, .inl ⟨rfl, _, .inl (.inl q2)⟩, B0, H0, B, o, fun v r B1 H1 hr g1 o1 hv => ?_⟩
    subst hr
    obtain ⟨l2, vs, p1, p2, p3, p4⟩ := v_mu o1 hG
    rw [q1] at p1
    have e1 := V.ref.inj (Option.some.inj (Option.some.inj p1))
    subst e1
    obtain ⟨c, ws, rfl, w1, w2⟩ := dpt hv
    refine ⟨l, c, vs, ws, rfl, rfl, p2, sqt_mono o1.bh w1, ?_, k.nx _ σ B1 _ h (p4 _ _ (dpall_app p3 w2)) g1.bb⟩
    rw [dpall_len p3, dpall_len w2]
    exact Nat.le_of_lt (small1000 hz)
/-! ### for i, x in enumerate(list) -/
theorem s_forE (is : List Nat) {tp : Pos} {ns : List Int} {xs : Expr} {ts : List Expr} {k1 : Nat} (G : Nat → Gm → Prop) (hp : PassesOwn (model X.prog X.w) X.A X.env X.xe) (hc : X.calm = true) (hm : X.mg "enumerate" = none) (ha : PE X xs (tD (zx X M) Γ (fun y => y = .d (.list (ns.map PyData.int))))) (hg : PGs X ts (gNs is)) (hl : ∀ i Γ', G i Γ' → ∀ j ∈ is, j < Γ'.length) (h2 : is.length = 2)
    (h0 : G 0 Γ) (hs : ∀ (i : Nat) Γ', i < ns.length → G i Γ' → PSs X body (tO (zx X M) E (setAll Γ' is [.int (i : Int), .int (ns.getD i 0)]) (loopP (G (i + 1)) P))) (hd : ∀ Γ', G ns.length Γ' → P (.nx Γ'))
    (hn : (assignEach ts X.env).length = is.length := by rfl) (hst : (assignEach ts X.env).findIdx? (·.1) = none := by rfl)
    (hgl : Gl X "enumerate" := by rfl) (hse : starEach [xs] X.env = [(false, eval xs X.env)] := by rfl) (hfs : ∀ x, foldedSetIterable (.Call (.Name "enumerate" p) [xs] [] p2) X.env x = pure x := by intro _; rfl) : PS X (.For (.Tuple ts k1 tp) (.Call (.Name "enumerate" p) [xs] [] p2) body [] pos) (tO (zx X M) E Γ P) := by
  have hb : PSs X body (fun D σ H => ∃ (i : Nat) (Γ' : Gm), i < ns.length ∧ G i Γ' ∧ tO (zx X M) E (setAll Γ' is [.int (i : Int), .int (ns.getD i 0)]) (loopP (G (i + 1)) P) D σ H) := ⟨fun pins s σ H D I ⟨i, Γ', h1, h2, q⟩ => (hs i Γ' h1 h2).run pins s σ H D I q⟩
  refine ps_imp (ps_for hp hc (pi_enum hgl hm (xp_cons (rs := []) ha xp_nil (by rw [hse]; rfl)) hse) (pg_tup hc hg hn hst) hb hfs) fun D σ H ⟨B0, H0, B, o, k⟩ => ⟨B0, H0, B, o, fun vs rs B1 H1 hr g1 o1 hvs => ?_⟩
  subst hr
  obtain ⟨v, rfl, hv⟩ : ∃ v, vs = [v] ∧ Dp (zx X M).K B1 v (.list (ns.map PyData.int)) := by
    cases hvs with
    | cons d1 d2 =>
      cases d2
      exact ⟨_, rfl, d1⟩
  obtain ⟨a, ws, rfl, q1, q2⟩ := dpl hv
  have e := dpall_ints hm q2
  subst e
  refine ⟨a, _, rfl, o1.bh.seq q1, ?_⟩
  refine ⟨fun i m σ H => m = ns.length - i ∧ i ≤ ns.length ∧ ∃ Γ' B', G i Γ' ∧ Same B1 B' ∧ Ok (zx X M) B0 H0 B' H σ Γ', ⟨ns.length, by simp, Nat.zero_le _, Γ, B1, h0, Same.refl B1, o1⟩, ?_⟩
  rintro i m σ' H' ⟨rfl, hi', Γ', B', hG, sm, o'⟩
  have st : Same B1 H' := sm.trans o'.bh
  by_cases hlt : i < ns.length
  · have hlv : i < (ns.map V.int).length := by rw [List.length_map]; exact hlt
    refine .inr ⟨⟨_, _, st.seq q1, List.getElem?_eq_getElem hlv⟩, fun σ2 H2 => ∃ Γ2 B2, G (i + 1) Γ2 ∧ Same B1 B2 ∧ Ok (zx X M) B0 H0 B2 H2 σ2 Γ2, fun σ2 H2 ⟨Γ2, B2, q1, q2, q3⟩ => ⟨ns.length - (i + 1), by omega, rfl, hlt, Γ2, B2, q1, q2, q3⟩, fun v H2 y => ?_⟩
    obtain ⟨t, x, rfl, ht, rfl, hx⟩ := y
    have hx := hx _ (st.seq q1)
    rw [List.getElem?_map, List.getElem?_eq_getElem hlt] at hx
    have hx := Option.some.inj hx
    subst hx
    have g := Gr.new o'.bh (o := .tup [.int (i : Nat), V.int ns[i]]) ht
    have o2 := o'.grow g
    refine ⟨t, [.int (i : Nat), V.int ns[i]], rfl, .inl (.inl upd_same), h2.symm, gNs_ok o2 (hl i Γ' hG) h2.symm (ds := [.int (i : Int), .int (ns.getD i 0)]) (.cons (Dp.int _) (.cons ?_ .nil)) fun σ2 o3 => ?_⟩
    · rw [List.getD_eq_getElem?_getD, List.getElem?_eq_getElem hlt]
      exact Dp.int _
    · exact ⟨i, Γ', hlt, hG, B0, H0, _, o3, ⟨fun G2 s b h q o2 s2 => ⟨G2, b, q, sm.trans (g.bb.trans s2), o2⟩, fun r u b h q => k.rt r u b h q, fun G2 s b h q o2 s2 => k.nx G2 s b h q o2 (g1.bb.trans (sm.trans (g.bb.trans s2))), fun G2 s b h q o2 s2 => ⟨G2, b, q, sm.trans (g.bb.trans s2), o2⟩, fun C f z u d b h q => k.ex C f z u d b h q⟩⟩
  · have ei : i = ns.length := by omega
    subst ei
    exact .inl ⟨⟨_, st.seq q1, by rw [List.length_map]; exact Nat.le_refl _⟩, k.nx Γ' σ' B' H' (hd Γ' hG) o' (g1.bb.trans sm)⟩
end
end K27
set_option maxHeartbeats 4000000
/-! More rules: not list, lists of lists, dicts with nested keys. -/
namespace K27
open PySem PySem.Spec PyProof.Rows L2
section
variable {X : Cx} {M : Option Addr} {E : XK} {Γ : Gm} {P : O → Prop} {a b e : Expr} {pos p p2 : Pos} {x : Str}
theorem x_notL {ds : List PyData} (ha : PE X a (tD (zx X M) Γ (fun y => y = .d (.list ds)))) : PE X (.UnaryOp .Not a pos) (tD (zx X M) Γ (fun y => y = .d (.bool ds.isEmpty))) := by
  refine ⟨fun pins s σ H Q I ⟨B0, H0, B, o, k⟩ => ?_⟩
  refine UnaryOp_ (thn (ha.run pins s σ H (fun x H1 => ∃ (l : Addr) (vs : List V), x = .ref l ∧ SqL X.K H1 l vs ∧ Q (.bl vs.isEmpty) H1) I ⟨B0, H0, B, o, fun v r B1 H1 hr g1 o1 hv => ?_⟩) fun v s1 ⟨x, H1, I1, r1, l, vs, ex, hq, q1⟩ => ?_)
  · subst hr
    obtain ⟨l, vs, rfl, h1, h2⟩ := dpl hv
    refine ⟨l, vs, rfl, o1.bh.seq h1, ?_⟩
    have e1 : vs.isEmpty = ds.isEmpty := by
      have := dpall_len h2
      cases vs <;> cases ds <;> first | rfl | (simp at this)
    rw [e1]
    exact k _ _ B1 H1 rfl g1 o1 (Dp.bl _)
  · subst ex
    cases r1
    obtain ⟨its, r, pl, hz⟩ := I1.list hq
    have hlen := r.length
    rw [sizeLine_eq] at hz
    refine not_of (wpAny_truthy_list pl.isList (by simp only [List.size_toArray]; omega) ⟨.bl vs.isEmpty, H1, I1.tok _, ?_, q1⟩)
    have e2 : its.toArray.isEmpty = vs.isEmpty := by
      cases its <;> cases vs <;> first | rfl | (simp at hlen)
    show Value.bool (!(!its.toArray.isEmpty)) = Value.bool vs.isEmpty
    rw [e2, Bool.not_not]
theorem getD_map {α : Type} {g : α → PyData} {l : List α} {d : α} {i : Nat} (h : i < l.length) : (l.map g).getD i .none = g (l.getD i d) := by
  rw [List.getD_eq_getElem?_getD, List.getD_eq_getElem?_getD, List.getElem?_map, List.getElem?_eq_getElem h]
  rfl
/-- a list of things that are told by g -/
theorem wlk_gl {Z : Zt} {α : Type} (g : α → PyData) (d : α) {l : List α} : Wlk Z Γ (iList Z.K (tD Z Γ (fun y => y = .d (.list (l.map g))))) l.length (fun i => .d (g (l.getD i d))) :=
  (wlk_lst.len (List.length_map ..)).imp fun i hi => congrArg VD.d (getD_map hi)
theorem wlk_gt {Z : Zt} {α : Type} (g : α → PyData) (d : α) {l : List α} : Wlk Z Γ (iTup Z.K (tD Z Γ (fun y => y = .d (.tuple (l.map g))))) l.length (fun i => .d (g (l.getD i d))) :=
  (wlk_tup.len (List.length_map ..)).imp fun i hi => congrArg VD.d (getD_map hi)
end
/-! ### dicts -/
mutual
theorem nk_of {X : Cx} {pins : List (Addr × Obj)} {σ : L2.St} {H : Hp} {s : Shared} {B : Hp} (I : Inv X pins σ H s) (hs : Same B H) : ∀ (k : NestedKey) (v : V) (u : Value), Dp X.K B v (keyD k) → RelV v u → NestedIs s.heap k u
  | .none, _, _, h, r => by
    cases h
    cases r
    exact .none
  | .num i, _, _, h, r => by
    cases h
    obtain ⟨t, rfl⟩ := r
    exact .int i t
  | .text x, _, _, h, r => by
    cases h
    obtain ⟨t, rfl⟩ := r
    exact .text x t
  | .tup ks, _, _, h, r => by
    obtain ⟨a, vs, rfl, h1, h2⟩ := dpt (show Dp X.K B _ (.tuple (keyD.keysD ks)) from h)
    cases r
    obtain ⟨its, rv, ⟨o, ho, hc, n, hd⟩, hz⟩ := I.tuple (sqt_mono hs h1)
    exact .tup ho hc hd (nks_of I hs ks vs its h2 rv)
theorem nks_of {X : Cx} {pins : List (Addr × Obj)} {σ : L2.St} {H : Hp} {s : Shared} {B : Hp} (I : Inv X pins σ H s) (hs : Same B H) : ∀ (ks : List NestedKey) (vs : List V) (us : List Value), DpAll X.K B vs (keyD.keysD ks) → Vals vs us → NestedAll s.heap ks us
  | [], _, _, h, r => by
    cases h
    cases r
    exact .nil
  | k :: ks, _, _, h, r => by
    cases h with
    | cons h1 h2 =>
      cases r with
      | cons r1 r2 => exact .cons (nk_of I hs k _ _ h1 r1) (nks_of I hs ks _ _ h2 r2)
end
theorem dc_at {X : Cx} {pins : List (Addr × Obj)} {σ : L2.St} {H : Hp} {s : Shared} {B : Hp} {a : Addr} {xs : List (NestedKey × Addr × Value)} {kvs : List (NestedKey × PyData)} {M : Option Addr} (I : Inv X pins σ H s) (hs : Same B H) (ha : H a = some (dcO X.prog X.w a xs)) (h : DcOk (zx X M) B xs kvs) : s.heap.DictOfH (nestedKind X.prog X.w) a xs := by
  have x : ObjOk X.prog X.w H s.heap a (.ext fun h => ∃ o es ep, h.get? a = some o ∧ o.ExactDict ∧ o.data = .dict es ep ∧ es.toList = xs.map (entryOfKey (nestedKind X.prog X.w))) := I.hok a _ ha
  obtain ⟨o, es, ep, h1, h2, h3, h4⟩ := x.1
  refine ⟨o, es, ep, h1, h2, h3, h4, fun y hy => ?_, h.nd⟩
  have key : ∀ {l : List (NestedKey × Addr × Value)} {m : List (NestedKey × PyData)}, Paired (fun (x : NestedKey × Addr × Value) (y : NestedKey × PyData) => x.1 = y.1 ∧ (Dp X.K B (.ref x.2.1) (keyD x.1) ∧ x.1.depth ≤ 8) ∧ ∃ v, RelV v x.2.2 ∧ Dp X.K B v y.2) l m → y ∈ l → Dp X.K B (.ref y.2.1) (keyD y.1) ∧ y.1.depth ≤ 8 := by
    intro l m q
    induction q with
    | nil => intro z; cases z
    | cons q1 q2 ih =>
      intro z
      rcases List.mem_cons.mp z with rfl | z
      · exact q1.2.1
      · exact ih z
  obtain ⟨q1, q2⟩ := key h.pr hy
  exact ⟨nk_of I hs _ _ _ q1 rfl, q2⟩
theorem dc_find {K : PySem.W.Frag} {B : Hp} {k : NestedKey} {d : PyData} : ∀ {xs : List (NestedKey × Addr × Value)} {kvs : List (NestedKey × PyData)}, Paired (fun (x : NestedKey × Addr × Value) (y : NestedKey × PyData) => x.1 = y.1 ∧ (Dp K B (.ref x.2.1) (keyD x.1) ∧ x.1.depth ≤ 8) ∧ ∃ v, RelV v x.2.2 ∧ Dp K B v y.2) xs kvs → (kvs.find? fun kv => decide (kv.1 = k)).map (·.2) = some d → ∃ p v, atKey xs k = some p ∧ RelV v p.2 ∧ Dp K B v d
  | _, _, .nil, h => by cases h
  | _, _, .cons (a := x) (b := y) (l₁ := xs) (l₂ := kvs) q1 q2, h => by
    obtain ⟨e1, _, v, r, hd⟩ := q1
    unfold atKey
    rw [List.find?_cons] at h ⊢
    by_cases e : y.1 = k
    · rw [decide_eq_true e] at h
      rw [decide_eq_true (e1.trans e)]
      have e2 := Option.some.inj h
      have e3 : y.2 = d := e2
      subst e3
      exact ⟨x.2, v, rfl, r, hd⟩
    · rw [decide_eq_false e] at h
      rw [decide_eq_false (fun z => e (e1.symm.trans z))]
      exact dc_find q2 h
def storedD (kvs : List (NestedKey × PyData)) (k : NestedKey) (d : PyData) : List (NestedKey × PyData) := if (kvs.any fun kv => decide (kv.1 = k)) = true then kvs.map (fun kv => if kv.1 = k then (kv.1, d) else kv) else kvs ++ [(k, d)]
def rIxDc (P : Program) (w : World) (K : PySem.W.Frag) : R2 := fun x y H Q => ∃ (a b : Addr) (xs : List (NestedKey × Addr × Value)) (kvs : List (NestedKey × PyData)) (k : NestedKey) (d : PyData) (B : Hp), x = .ref a ∧ y = .ref b ∧ Same B H ∧ H a = some (dcO P w a xs) ∧ DcOk ⟨P, w, K, none⟩ B xs kvs ∧ Dp K B (.ref b) (keyD k) ∧ k.depth ≤ 8 ∧ (kvs.find? fun kv => decide (kv.1 = k)).map (·.2) = some d ∧ ∀ v, Dp K B v d → Q v H
theorem ix_dc {X : Cx} (hu : X.A.units + 9 < cLine) : IxR X (rIxDc X.prog X.w X.K) := by
  intro value slice pins s σ H x y v u Q I rx ry h hs
  obtain ⟨a, b, xs, kvs, k, d, B, rfl, rfl, hB, ha, hd, hk, h8, hf, q⟩ := h
  cases rx
  cases ry
  obtain ⟨p, z, e1, r1, e2⟩ := dc_find hd.pr hf
  have hm := dc_at (M := none) I hB ha hd
  exact subscriptTail_builtinR (x := p.2) hm.typeIs slot_dict_getitem.lookup
    (wpAny_getItem_heap (knd := nestedKind X.prog X.w) (Q := fun r s' => r = p.2 ∧ EP X pins σ Q r s') (by show X.A.units + 1 + 8 < cLine; omega) ⟨nk_of I hB _ _ _ hk rfl, h8⟩ hm e1 ⟨rfl, z, H, I.tok _, r1, q z e2⟩) hs
def rSetDc (P : Program) (w : World) (K : PySem.W.Frag) : TSet := fun o i v H Q => ∃ (a b : Addr) (xs : List (NestedKey × Addr × Value)) (kvs : List (NestedKey × PyData)) (k : NestedKey) (d : PyData) (B : Hp), o = .ref a ∧ i = .ref b ∧ Same B H ∧ (a == sysModules) = false ∧ H a = some (dcO P w a xs) ∧ DcOk ⟨P, w, K, none⟩ B xs kvs ∧ Dp K B (.ref b) (keyD k) ∧ k.depth ≤ 8 ∧ xs.length ≤ 100000 ∧ Dp K B v d ∧ ∀ xs', DcOk ⟨P, w, K, none⟩ B xs' (storedD kvs k d) → Q (upd H a (dcO P w a xs'))
theorem any_pair {K : PySem.W.Frag} {B : Hp} {k : NestedKey} : ∀ {xs : List (NestedKey × Addr × Value)} {kvs : List (NestedKey × PyData)}, Paired (fun (x : NestedKey × Addr × Value) (y : NestedKey × PyData) => x.1 = y.1 ∧ (Dp K B (.ref x.2.1) (keyD x.1) ∧ x.1.depth ≤ 8) ∧ ∃ v, RelV v x.2.2 ∧ Dp K B v y.2) xs kvs → (kvs.any fun kv => decide (kv.1 = k)) = (atKey xs k).isSome
  | _, _, .nil => rfl
  | _, _, .cons (a := x) (b := y) (l₁ := xs) (l₂ := kvs) q1 q2 => by
    have ih := any_pair (k := k) q2
    unfold atKey at ih ⊢
    rw [List.any_cons, List.find?_cons]
    by_cases e : y.1 = k
    · rw [decide_eq_true e, decide_eq_true (q1.1.trans e)]
      rfl
    · rw [decide_eq_false e, decide_eq_false (fun z => e (q1.1.symm.trans z)), Bool.false_or]
      exact ih
theorem stored_ok {Z : Zt} {B : Hp} {xs : List (NestedKey × Addr × Value)} {kvs : List (NestedKey × PyData)} {k : NestedKey} {b : Addr} {v : V} {u : Value} {d : PyData} (h : DcOk Z B xs kvs) (hk : Dp Z.K B (.ref b) (keyD k)) (h8 : k.depth ≤ 8) (r : RelV v u) (hv : Dp Z.K B v d) (nd : ((storedH xs k b u).map (·.1)).Nodup) : DcOk Z B (storedH xs k b u) (storedD kvs k d) := by
  refine ⟨?_, nd⟩
  unfold storedH storedD
  rw [any_pair h.pr]
  split
  · have key : ∀ {l : List (NestedKey × Addr × Value)} {m : List (NestedKey × PyData)}, Paired (fun (x : NestedKey × Addr × Value) (y : NestedKey × PyData) => x.1 = y.1 ∧ (Dp Z.K B (.ref x.2.1) (keyD x.1) ∧ x.1.depth ≤ 8) ∧ ∃ v, RelV v x.2.2 ∧ Dp Z.K B v y.2) l m → Paired (fun (x : NestedKey × Addr × Value) (y : NestedKey × PyData) => x.1 = y.1 ∧ (Dp Z.K B (.ref x.2.1) (keyD x.1) ∧ x.1.depth ≤ 8) ∧ ∃ v, RelV v x.2.2 ∧ Dp Z.K B v y.2) (l.map (putAt k u)) (m.map fun kv => if kv.1 = k then (kv.1, d) else kv) := by
      intro l m q
      induction q with
      | nil => exact .nil
      | @cons a1 b1 _ _ q1 q2 ih =>
        refine .cons ?_ ih
        unfold putAt
        dsimp only
        by_cases e : a1.1 = k
        · rw [if_pos e, if_pos (q1.1.symm.trans e)]
          exact ⟨q1.1, q1.2.1, v, r, hv⟩
        · rw [if_neg e, if_neg (fun z => e (q1.1.trans z))]
          exact q1
    exact key h.pr
  · exact Paired.snoc h.pr ⟨rfl, ⟨hk, h8⟩, v, r, hv⟩
theorem dcO_ok {P : Program} {w : World} {H : Hp} {h : Heap} {a : Addr} {xs : List (NestedKey × Addr × Value)} (x : ∃ o es ep, h.get? a = some o ∧ o.ExactDict ∧ o.data = .dict es ep ∧ es.toList = xs.map (entryOfKey (nestedKind P w))) : ObjOk P w H h a (dcO P w a xs) := by
  refine ⟨x, ?_, fun h1 h2 z k => ?_⟩
  · obtain ⟨o, _, _, e, _⟩ := x
    exact ⟨o, e⟩
  · obtain ⟨o, es, ep, e1, e2⟩ := z
    exact ⟨o, es, ep, k _ e1, e2⟩
theorem set_dc {X : Cx} (hu : X.A.units + 9 < cLine) : PSet X (rSetDc X.prog X.w X.K) := by
  intro pins s σ H o i v ov iv u Q I ro ri rv h
  obtain ⟨a, b, xs, kvs, k, d, B, rfl, rfl, hB, hS, ha, hd, hk, h8, hl, hv, q⟩ := h
  cases ro
  cases ri
  have hm := dc_at (M := none) I hB ha hd
  refine wpAny_setItem_heap (knd := nestedKind X.prog X.w) (by show X.A.units + 1 + 8 < cLine; omega) ⟨nk_of I hB _ _ _ hk rfl, h8⟩ hm (fun h' hm' hs' => ?_) (by rw [sizeLine_eq]; omega)
  obtain ⟨o, es, ep, e1, e2, e3, e4, e5, e6⟩ := id hm'
  refine ⟨_, I.write (x := a) (e := a) (o := dcO X.prog X.w a (storedH xs k b u)) (by rw [ha]; exact True.intro) (.inl rfl) (fun c w hc z => (hs'.2 c hc).trans z) ⟨o, e1⟩ (dcO_ok ⟨o, es, ep, e1, e2, e3, e4⟩), q _ (stored_ok hd hk h8 rv hv e6)⟩
section
variable {X : Cx} {M : Option Addr} {E : XK} {Γ : Gm} {P : O → Prop} {a b e : Expr} {pos p p2 : Pos} {x : Str}
theorem dcok_m {P : Program} {w : World} {K : PySem.W.Frag} {M M' : Option Addr} {B : Hp} {xs : List (NestedKey × Addr × Value)} {kvs : List (NestedKey × PyData)} (h : DcOk ⟨P, w, K, M⟩ B xs kvs) : DcOk ⟨P, w, K, M'⟩ B xs kvs := ⟨h.pr, h.nd⟩
/-- d[k] -/
theorem x_ixDc {kvs : List (NestedKey × PyData)} {d : PyData} {j : Nat} (ks : List NestedKey) (hr : Room j X.A) (ha : PE X a (tD (zx X M) Γ (fun r => r = .dc kvs))) (hb : PE X b (tD (zx X M) Γ (fun r => r = .d (keyD (.tup ks))))) (h8 : (NestedKey.tup ks).depth ≤ 8) (hf : (kvs.find? fun kv => decide (kv.1 = .tup ks)).map (·.2) = some d) (hs : PlainIx b := by exact fun _ _ => rfl) : PE X (.Subscript a b pos) (tD (zx X M) Γ (fun r => r = .d d)) :=
  pe_imp (pe_ix (ix_dc (by have := hr.units; omega)) ha hb hs) (op_read (det2 fun B H u v Q hs hu hv q => by
    obtain ⟨a, xs, rfl, h1, h2, h3⟩ := hu
    obtain ⟨b, vs, rfl, _⟩ := dpt (show Dp X.K B v (.tuple (keyD.keysD ks)) from hv)
    exact ⟨a, b, xs, kvs, _, d, B, rfl, rfl, hs, hs _ _ h2, dcok_m h3, hv, h8, hf, fun z hz => q z _ B H rfl (Gr.refl hs) hz⟩))
/-- {} -/
theorem s_asgDc (i : Nat) (hN : X.N.Nodup) (h : P (.nx (Γ.set i (some (.md []))))) (hl : i < Γ.length := by exact Nat.le_of_ble_eq_true rfl) (hi : X.N[i]? = some x := by rfl) (hx : Loc X.env.scope x := by first | exact Or.inl rfl | exact Or.inr rfl)
    (hs : swapsWith (.Dict [] [] p2) (some (.Name x p)) pos.line X.env = pure false := by rfl) (hf : X.fn x = true ∨ X.env.scope.names.lookup x = some .local := by first | exact .inl rfl | exact .inr rfl) : PS X (.Assign [.Name x p] (.Dict [] [] p2) pos) (tO (zx X M) E Γ P) := by
  have pd : PE X (.Dict [] [] p2) (fun _ H Q => ∀ l, H l = none → (l == sysModules) = false → Q (.ref l) (upd H l (dcO X.prog X.w l []))) := ⟨fun pins s σ H Q I h =>
    wpAny_Dict_empty ⟨.ref s.heap.objs.size, _, I.laid (a := s.heap.objs.size) (o := dcO X.prog X.w s.heap.objs.size []) (t' := s.toks) (fun _ _ q => Heap.get?_push_of_some _ q) (Nat.le_refl _) (dcO_ok ⟨_, #[], 0, Heap.get?_push_size _ rfl, ⟨rfl, rfl, rfl⟩, rfl, rfl⟩), rfl, h _ (I.hok.fresh (Nat.le_refl _)) (beq_eq_false_iff_ne.mpr (Ne.symm (Nat.ne_of_lt I.big)))⟩⟩
  refine ps_imp (ps_set hN hi hx pd hs hf) fun D σ H ⟨B0, H0, B, o, k⟩ l hl0 hS => ?_
  have hb : B l = none := o.bh.free hl0
  have hm : M ≠ some l := fun z => by
    obtain ⟨_, c, cells, pos, rest, tot, q, _⟩ := o.hand l z
    rw [hl0] at q
    cases q
  have h0 : H0 l = none := by
    cases q : H0 l with
    | none => rfl
    | some w => exact absurd hl0 (o.gr.al l (by rw [q]; simp))
  have g : Gr M B H B (upd H l (dcO X.prog X.w l [])) := ⟨Same.refl _, fun a w z => by rw [upd_ne (ne_of_none z hb)]; exact o.bh a w z, fun a w _ z => by rw [upd_ne (ne_of_none z hl0)]; exact z, fun a z => .inl z, fun a z => by
    by_cases q : a = l
    · subst q
      exact absurd hl0 z
    · rw [upd_ne q]
      exact z⟩
  have hd1 : HandM (zx X M) B (upd H l (dcO X.prog X.w l [])) := fun a z => by
    obtain ⟨nb, c, cells, pos, rest, tot, q, q2⟩ := o.hand a z
    exact ⟨nb, c, cells, pos, rest, tot, by rw [upd_ne (ne_of_none q hl0)]; exact q, q2⟩
  have o2 := o.growM g hd1
  exact k.nx _ _ B _ h (o2.setOwn hl ⟨l, [], rfl, h0, hb, hm, upd_same, hS, ⟨.nil, List.nodup_nil⟩⟩ fun j t e1 e2 e3 => absurd hl0 (o.ownKnown e1 e2 e3).1) (Same.refl B)
/-- d[k] = e, d an own dict in the j-th name -/
theorem s_setDc (j : Nat) {y : PyData} {kvs : List (NestedKey × PyData)} (ks : List NestedKey) {jr : Nat} {ie : Expr} {q : Pos} (hr : Room jr X.A) (he : PE X e (tD (zx X M) Γ (fun r => r = .d y))) (hi : PE X ie (tD (zx X M) Γ (fun r => r = .d (keyD (.tup ks))))) (h8 : (NestedKey.tup ks).depth ≤ 8) (hl : kvs.length ≤ 100000) (h : P (.nx (Γ.set j (some (.md (storedD kvs (.tup ks) y)))))) (hG : Γ[j]? = some (some (.md kvs)) := by rfl)
    (hN : X.N[j]? = some x := by rfl) (hv : Vis X.env.scope x := by first | exact Or.inl rfl | exact Or.inr (Or.inl rfl) | exact Or.inr (Or.inr rfl)) (hd : (x == ("__debug__" : Str)) = false := by decide) (hcd : (x == ("__classdict__" : Str)) = false := by decide)
    (ha : ∀ v, assign (.Subscript (.Name x q) ie p) X.env v = (do
      let ov ← holding [v] (eval (.Name x q) X.env)
      let iv ← holding [v, ov] (eval ie X.env)
      standAt p
      holding [v, ov, iv] (setItem ov iv v)
      release [v, ov, iv] []) := by intro _; rfl)
    (hs : swapsWithSole [.Subscript (.Name x q) ie p] e pos.line X.env = pure false := by rfl) (hw : swappedStores [.Subscript (.Name x q) ie p] e X.env = pure none := by rfl)
    (h1 : (assignEach [.Subscript (.Name x q) ie p] X.env).map (·.2) = [assign (.Subscript (.Name x q) ie p) X.env] := by rfl) : PS X (.Assign [.Subscript (.Name x q) ie p] e pos) (tO (zx X M) E Γ P) :=
  ps_imp (ps_asg he (pg_sub (pv j hN hv hd hcd) hi (set_dc (by have := hr.units; omega)) ha) hs hw h1) fun D σ H ⟨B0, H0, B, o, k⟩ => ⟨B0, H0, B, o, fun v r B1 H1 hr g1 o1 hv => by
    subst hr
    obtain ⟨x1, q1, l, xs, ex, _⟩ := o1.sl j _ hG
    subst ex
    refine ⟨.ref l, q1, B0, H0, B1, o1, fun w r B2 H2 hr g2 o2 hw => ?_⟩
    subst hr
    obtain ⟨x2, q2, l2, xs2, ex, z1, z2, z3, z4, z5, z6⟩ := o2.sl j _ hG
    subst ex
    rw [q1] at q2
    have e1 := V.ref.inj (Option.some.inj (Option.some.inj q2))
    subst e1
    obtain ⟨b, vs, rfl, _⟩ := dpt (show Dp X.K B2 w (.tuple (keyD.keysD ks)) from hw)
    have hlen : xs2.length = kvs.length := Paired.length z6.pr
    refine ⟨l, b, xs2, kvs, .tup ks, y, B2, rfl, rfl, o2.bh, z5, z4, dcok_m z6, hw, h8, by rw [hlen]; exact hl, dp_mono g2.bb _ _ hv, fun xs' hx => ?_⟩
    exact k.nx _ σ B2 _ h (o2.write (s' := .md (storedD kvs (.tup ks) y)) hG rfl q1 rfl ⟨l, xs', rfl, z1, z2, z3, upd_same, z5, dcok_m hx⟩) (g1.bb.trans g2.bb)⟩
end
section
variable {Z : Zt} {B0 H0 B H : Hp} {σ : L2.St} {Γ : Gm}
/-- an own dict becomes a dict that stands -/
theorem Ok.freezeD (o : Ok Z B0 H0 B H σ Γ) {i : Nat} {kvs : List (NestedKey × PyData)} (e : Γ[i]? = some (some (.md kvs))) : ∃ (l : Addr) (u : HO), B l = none ∧ Ok Z B0 H0 (L2.upd B l u) H σ (Γ.set i (some (.v (.dc kvs)))) := by
  obtain ⟨x, hx, l, xs, rfl, h0, hb, hm, hl, hS, hd⟩ := o.sl i _ e
  have up : Same B (L2.upd B l (dcO Z.P Z.w l xs)) := fun a w z => by rw [upd_ne (ne_of_none z hb)]; exact z
  refine ⟨l, dcO Z.P Z.w l xs, hb, ⟨⟨o.gr.bb.trans up, fun a w z => ?_, o.gr.hh, fun a z => ?_, o.gr.al⟩, fun a z => ?_, by rw [List.length_set, o.len], fun j t q => ?_, fun j k t w x e1 e2 o1 o2 x1 x2 => ?_⟩⟩
  · by_cases ha : a = l
    · subst ha
      rw [upd_same] at z
      rw [← z]
      exact hl
    · rw [upd_ne ha] at z
      exact o.gr.bh a w z
  · by_cases ha : a = l
    · subst ha
      exact .inr h0
    · rw [upd_ne ha] at z
      exact o.gr.nw a z
  · obtain ⟨nb, c, cells, pos, rest, tot, h1, h2, h3⟩ := o.hand a z
    exact ⟨by rw [upd_ne (fun q => hm (by rw [← q]; exact z))]; exact nb, c, cells, pos, rest, tot, h1, up.seq h2, h3⟩
  · rcases set_at q with ⟨rfl, p⟩ | ⟨n, p⟩
    · cases p
      exact ⟨.ref l, hx, l, xs, rfl, hS, upd_same, dcok_mono up hd⟩
    · obtain ⟨x, h1, h2⟩ := o.sl j t p
      refine ⟨x, h1, ?_⟩
      have nl : own t = true → x ≠ .ref l := fun ot z => n (o.dis j i t _ (.ref l) p e ot rfl (by rw [h1, z]) hx)
      cases t with
      | v r => exact vok_mono up h2
      | hd => exact h2
      | ad a => exact h2
      | mu ds =>
        obtain ⟨l', vs, e', h0', hb', hm', hl', hd'⟩ := h2
        exact ⟨l', vs, e', h0', by rw [upd_ne (fun z => nl rfl (by rw [e', z]))]; exact hb', hm', hl', dpall_mono up _ _ hd'⟩
      | md kvs =>
        obtain ⟨l', xs, e', h0', hb', hm', hl', hs', hd'⟩ := h2
        exact ⟨l', xs, e', h0', by rw [upd_ne (fun z => nl rfl (by rw [e', z]))]; exact hb', hm', hl', hs', dcok_mono up hd'⟩
  · rcases set_at e1 with ⟨rfl, q1⟩ | ⟨n1, q1⟩
    · cases q1
      cases o1
    · rcases set_at e2 with ⟨rfl, q2⟩ | ⟨n2, q2⟩
      · cases q2
        cases o2
      · exact o.dis j k t w x q1 q2 o1 o2 x1 x2
end
section
variable {X : Cx} {M : Option Addr} {E : XK} {Γ : Gm} {P : O → Prop} {sts : List Stmt}
theorem s_freezeD (i : Nat) {kvs : List (NestedKey × PyData)} (h : PSs X sts (tO (zx X M) E (Γ.set i (some (.v (.dc kvs)))) P)) (hG : Γ[i]? = some (some (.md kvs)) := by rfl) : PSs X sts (tO (zx X M) E Γ P) :=
  pss_imp h fun D σ H ⟨B0, H0, B, o, k⟩ => by
    obtain ⟨l, u, h2, o2⟩ := o.freezeD hG
    exact ⟨B0, H0, _, o2, k.later fun a w z => by rw [upd_ne (ne_of_none z h2)]; exact z⟩
end
section
variable {X : Cx} {M : Option Addr} {E : XK} {Γ : Gm} {P : O → Prop} {pos : Pos}
/-- an if whose branches both go on -/
theorem s_ifJ {α : Type} (Φ : α → Gm) (good : α → Prop) {Rc : Bool → Prop} {c : Expr} {a b : List Stmt} (hk : ∀ x, good x → P (.nx (Φ x))) (hc : PT X c (tDT (zx X M) Γ Rc)) (ha : Rc true → PSs X a (tO (zx X M) E Γ (fun o => ∃ x, good x ∧ o = .nx (Φ x)))) (hb : Rc false → PSs X b (tO (zx X M) E Γ (fun o => ∃ x, good x ∧ o = .nx (Φ x)))) : PS X (.If c a b pos) (tO (zx X M) E Γ P) :=
  s_if hc (fun h => s_mono (ha h) fun o ⟨x, g, e⟩ => by rw [e]; exact hk x g) (fun h => s_mono (hb h) fun o ⟨x, g, e⟩ => by rw [e]; exact hk x g)
end
section
variable {X : Cx} {M : Option Addr} {E : XK} {Γ : Gm} {P : O → Prop} {sts : List Stmt}
/-- the names written down anew -/
theorem s_re (Γ' : Gm) (h : PSs X sts (tO (zx X M) E Γ' P)) (e : Γ = Γ' := by rfl) : PSs X sts (tO (zx X M) E Γ P) := e ▸ h
end
end K27
set_option maxHeartbeats 4000000
/-! The mirrors: what the defs reckon, in plain Lean. -/
namespace K27
/-- an item of a list of ints -/
def gi (l : List Int) (i : Int) : Int := l.getD i.toNat 0
def a1 (f : Int) : Int := gi [2, 1, 0, 2, 1, 0] f
def a2 (f : Int) : Int := gi [1, 2, 2, 0, 0, 1] f
theorem six {f : Int} (h0 : 0 ≤ f) (h : f < 6) : f = 0 ∨ f = 1 ∨ f = 2 ∨ f = 3 ∨ f = 4 ∨ f = 5 := by omega
theorem a1_b {f : Int} (h0 : 0 ≤ f) (h : f < 6) : 0 ≤ a1 f ∧ a1 f < 3 := by
  rcases six h0 h with rfl | rfl | rfl | rfl | rfl | rfl <;> decide
theorem a2_b {f : Int} (h0 : 0 ≤ f) (h : f < 6) : 0 ≤ a2 f ∧ a2 f < 3 := by
  rcases six h0 h with rfl | rfl | rfl | rfl | rfl | rfl <;> decide
/-- all items within -/
def Bd (n : Int) (l : List Int) : Prop := ∀ x ∈ l, -n ≤ x ∧ x ≤ n
theorem gi_mem {l : List Int} {i : Int} (h0 : 0 ≤ i) (h : i < l.length) : gi l i ∈ l := by
  unfold gi
  have h' : i.toNat < l.length := by omega
  rw [List.getD_eq_getElem?_getD, List.getElem?_eq_getElem h']
  exact List.getElem_mem h'
theorem Bd.at {n : Int} {l : List Int} (b : Bd n l) {i : Int} (h0 : 0 ≤ i) (h : i < l.length) : -n ≤ gi l i ∧ gi l i ≤ n := b _ (gi_mem h0 h)
/-- the level of a face -/
def lvl (s : List Int) (f : Int) : Int := if f - f / 2 * 2 = 1 then gi s (f / 2) else 0
def meas (f : Int) (d p : List Int) : Int := gi d (a1 f) * gi p (a2 f) - gi d (a2 f) * gi p (a1 f)
def spot0 (s : List Int) (f b : Int) : List Int := ([0, 0, 0].set (f / 2).toNat (lvl s f)).set (b / 2).toNat (lvl s b)
def spot1 (s : List Int) (f b : Int) : List Int := (spot0 s f b).set (3 - f / 2 - b / 2).toNat (gi s (3 - f / 2 - b / 2))
def end0 (s : List Int) (f b : Int) (d : List Int) : Int := meas f d (spot0 s f b)
def end1 (s : List Int) (f b : Int) (d : List Int) : Int := meas f d (spot1 s f b)
end K27
namespace K27
/-- the step of a direction out over a face -/
def outw (b : Int) (d : List Int) : Int := if b - b / 2 * 2 = 1 then gi d (b / 2) else -gi d (b / 2)
def besides (f : Int) : List Int := ([0, 1, 2, 3, 4, 5] : List Int).filter fun o => o / 2 ≠ f / 2
theorem Bd.mono {n m : Int} {l : List Int} (b : Bd n l) (h : n ≤ m) : Bd m l := fun x hx => by have := b x hx; omega
theorem Bd.set {n : Int} {l : List Int} (b : Bd n l) {k : Nat} {x : Int} (h : -n ≤ x ∧ x ≤ n) : Bd n (l.set k x) := fun y hy => by
  rcases List.mem_or_eq_of_mem_set hy with q | q
  · exact b y q
  · rw [q]; exact h
theorem Bd.neg {n : Int} {l : List Int} (b : Bd n l) : Bd n (l.map fun x => -x) := fun y hy => by
  obtain ⟨x, hx, rfl⟩ := List.mem_map.mp hy
  have := b x hx
  omega
end K27
namespace K27
theorem range_getD (l : List Int) : (List.range l.length).map (fun i => l.getD i 0) = l := by
  refine List.ext_getElem? fun i => ?_
  by_cases h : i < l.length
  · rw [List.getElem?_map, List.getElem?_range h, List.getElem?_eq_getElem h]
    show some (l.getD i 0) = some l[i]
    rw [List.getD_eq_getElem?_getD, List.getElem?_eq_getElem h]
    rfl
  · rw [List.getElem?_eq_none (by rw [List.length_map, List.length_range]; omega), List.getElem?_eq_none (by omega)]
theorem range_filter {α : Type} (l : List Int) (p : Int → Bool) (g : Int → α) : ((List.range l.length).filter (fun i => p (l.getD i 0))).map (fun i => g (l.getD i 0)) = (l.filter p).map g := by
  have e : l.filter p = ((List.range l.length).filter (fun i => p (l.getD i 0))).map (fun i => l.getD i 0) := by
    have h := List.filter_map (p := p) (f := fun i => l.getD i 0) (l := List.range l.length)
    rw [range_getD] at h
    exact h
  rw [e, List.map_map]
  rfl
theorem range_map {α : Type} (l : List Int) (g : Int → α) : (List.range l.length).map (fun i => g (l.getD i 0)) = l.map g := by
  have e : (List.range l.length).map (fun i => g (l.getD i 0)) = ((List.range l.length).map (fun i => l.getD i 0)).map g := by
    rw [List.map_map]
    rfl
  rw [e, range_getD]
/-- the first that serves -/
def fstM {α : Type} (t : Int → Option α) : List Int → Option α
  | [] => none
  | b :: r => match t b with
    | some x => some x
    | none => fstM t r
theorem fstM_at {α : Type} {t : Int → Option α} {x : α} : ∀ {l : List Int} {i : Nat}, (∀ k, k < i → t (l.getD k 0) = none) → i < l.length → t (l.getD i 0) = some x → fstM t l = some x
  | [], i, _, h, _ => by cases h
  | b :: r, 0, _, _, h => by
    have h : t b = some x := h
    unfold fstM
    rw [h]
  | b :: r, i + 1, hn, hl, h => by
    have h0 : t b = none := hn 0 (Nat.succ_pos i)
    unfold fstM
    rw [h0]
    exact fstM_at (i := i) (fun k hk => hn (k + 1) (Nat.succ_lt_succ hk)) (Nat.lt_of_succ_lt_succ hl) h
theorem fstM_none {α : Type} {t : Int → Option α} : ∀ {l : List Int}, (∀ k, k < l.length → t (l.getD k 0) = none) → fstM t l = none
  | [], _ => rfl
  | b :: r, hn => by
    have h0 : t b = none := hn 0 (Nat.succ_pos _)
    unfold fstM
    rw [h0]
    exact fstM_none fun k hk => hn (k + 1) (Nat.succ_lt_succ hk)
def besidesL (f : Int) : List Int := ((List.range 6).filter fun i => !decide (((0 : Int) + (i : Nat)) / 2 = f / 2)).map fun i => (0 : Int) + (i : Nat)
def leavL (f : Int) (d : List Int) : List Int := (besidesL f).filter fun b => decide (0 < outw b d)
def goneM (f b : Int) (d : List Int) : List Int := (d.set (b / 2).toNat 0).set (f / 2).toNat (if f - f / 2 * 2 = 1 then -outw b d else outw b d)
def onwT (s : List Int) (f : Int) (d : List Int) (lo hi : Int) (b : Int) : Option (Int × List Int × Int × Int) :=
  if min (end0 s f b d) (end1 s f b d) ≤ lo ∧ hi ≤ max (end0 s f b d) (end1 s f b d) then some (b, goneM f b d, lo + (end0 s b f (goneM f b d) - end0 s f b d), hi + (end0 s b f (goneM f b d) - end0 s f b d)) else none
def onwM (s : List Int) (f : Int) (d : List Int) (lo hi : Int) : Option (Int × List Int × Int × Int) := fstM (onwT s f d lo hi) (leavL f d)
theorem besidesL_b {f b : Int} (h : b ∈ besidesL f) : 0 ≤ b ∧ b < 6 ∧ b / 2 ≠ f / 2 := by
  unfold besidesL at h
  obtain ⟨i, hi, rfl⟩ := List.mem_map.mp h
  obtain ⟨h1, h2⟩ := List.mem_filter.mp hi
  have h1 := List.mem_range.mp h1
  refine ⟨by omega, by omega, ?_⟩
  intro z
  rw [decide_eq_true z] at h2
  cases h2
theorem leavL_b {f b : Int} {d : List Int} (h : b ∈ leavL f d) : 0 ≤ b ∧ b < 6 ∧ b / 2 ≠ f / 2 ∧ 0 < outw b d := by
  obtain ⟨h1, h2⟩ := List.mem_filter.mp h
  obtain ⟨h3, h4, h5⟩ := besidesL_b h1
  exact ⟨h3, h4, h5, of_decide_eq_true h2⟩
theorem getD_mem {l : List Int} {i : Nat} (h : i < l.length) : l.getD i 0 ∈ l := by
  rw [List.getD_eq_getElem?_getD, List.getElem?_eq_getElem h]
  exact List.getElem_mem h
theorem goneM_len {f b : Int} {d : List Int} : (goneM f b d).length = d.length := by
  unfold goneM
  rw [List.length_set, List.length_set]
theorem outw_bd {n b : Int} {d : List Int} (h : Bd n d) (h0 : 0 ≤ b / 2) (h3 : b / 2 < d.length) : -n ≤ outw b d ∧ outw b d ≤ n := by
  have q := h.at h0 h3
  unfold outw
  split <;> omega
theorem goneM_bd {n f b : Int} {d : List Int} (hn : 0 ≤ n) (h : Bd n d) (h0 : 0 ≤ b / 2) (h3 : b / 2 < d.length) : Bd n (goneM f b d) := by
  have q := outw_bd h h0 h3
  unfold goneM
  refine (h.set (by omega)).set ?_
  split <;> omega
end K27
namespace K27
def cbits (c : Int) : List Int := [c / 4, c / 2 - c / 4 * 2, c - c / 2 * 2]
def focM (c : Int) : List Int := [gi (cbits c) 0, 2 + gi (cbits c) 1, 4 + gi (cbits c) 2]
def cornM (srt : List Int) : Int := (fstM (fun k => if srt = focM k then some k else none) [0, 1, 2, 3, 4, 5, 6, 7]).getD 7
def negL (d : List Int) : List Int := d.map fun x => -x
theorem negL_len {d : List Int} : (negL d).length = d.length := List.length_map ..
theorem gi_set {l : List Int} {k : Int} {x : Int} {i : Int} (h0 : 0 ≤ i) (hi : i < l.length) (k0 : 0 ≤ k) : gi (l.set k.toNat x) i = if i = k then x else gi l i := by
  unfold gi
  rw [List.getD_eq_getElem?_getD, List.getD_eq_getElem?_getD]
  by_cases e : i = k
  · subst e
    rw [if_pos rfl, List.getElem?_set_self (by omega)]
    rfl
  · rw [if_neg e, List.getElem?_set_ne (by omega)]
end K27
namespace K27
def lstMin : List Int → Int
  | [] => 0
  | x :: r => r.foldl min x
def lstMax : List Int → Int
  | [] => 0
  | x :: r => r.foldl max x
theorem foldl_min_le : ∀ {l : List Int} {x : Int}, l.foldl min x ≤ x ∧ ∀ y ∈ l, l.foldl min x ≤ y
  | [], x => ⟨Int.le_refl x, fun y h => nomatch h⟩
  | z :: l, x => by
    obtain ⟨h1, h2⟩ := @foldl_min_le l (min x z)
    refine ⟨Int.le_trans h1 (Int.min_le_left x z), fun y hy => ?_⟩
    rcases List.mem_cons.mp hy with rfl | hy
    · exact Int.le_trans h1 (Int.min_le_right x y)
    · exact h2 y hy
theorem foldl_min_mem : ∀ {l : List Int} {x : Int}, l.foldl min x = x ∨ l.foldl min x ∈ l
  | [], x => .inl rfl
  | z :: l, x => by
    rcases @foldl_min_mem l (min x z) with h | h
    · rw [List.foldl_cons, h]
      rcases Int.le_total x z with q | q
      · exact .inl (Int.min_eq_left q)
      · right
        rw [Int.min_eq_right q]
        exact List.mem_cons_self
    · exact .inr (List.mem_cons_of_mem _ h)
theorem lstMin_mem {l : List Int} (h : l ≠ []) : lstMin l ∈ l := by
  cases l with
  | nil => exact absurd rfl h
  | cons x r =>
    rcases @foldl_min_mem r x with q | q
    · show r.foldl min x ∈ _
      rw [q]
      exact List.mem_cons_self
    · exact List.mem_cons_of_mem _ q
theorem lstMin_le {l : List Int} : ∀ y ∈ l, lstMin l ≤ y := by
  cases l with
  | nil => exact fun y h => nomatch h
  | cons x r =>
    intro y hy
    rcases List.mem_cons.mp hy with rfl | hy
    · exact foldl_min_le.1
    · exact foldl_min_le.2 y hy
theorem foldl_max_le : ∀ {l : List Int} {x : Int}, x ≤ l.foldl max x ∧ ∀ y ∈ l, y ≤ l.foldl max x
  | [], x => ⟨Int.le_refl x, fun y h => nomatch h⟩
  | z :: l, x => by
    obtain ⟨h1, h2⟩ := @foldl_max_le l (max x z)
    refine ⟨Int.le_trans (Int.le_max_left x z) h1, fun y hy => ?_⟩
    rcases List.mem_cons.mp hy with rfl | hy
    · exact Int.le_trans (Int.le_max_right x y) h1
    · exact h2 y hy
theorem foldl_max_mem : ∀ {l : List Int} {x : Int}, l.foldl max x = x ∨ l.foldl max x ∈ l
  | [], x => .inl rfl
  | z :: l, x => by
    rcases @foldl_max_mem l (max x z) with h | h
    · rw [List.foldl_cons, h]
      rcases Int.le_total x z with q | q
      · right
        rw [Int.max_eq_right q]
        exact List.mem_cons_self
      · exact .inl (Int.max_eq_left q)
    · exact .inr (List.mem_cons_of_mem _ h)
theorem lstMax_mem {l : List Int} (h : l ≠ []) : lstMax l ∈ l := by
  cases l with
  | nil => exact absurd rfl h
  | cons x r =>
    rcases @foldl_max_mem r x with q | q
    · show r.foldl max x ∈ _
      rw [q]
      exact List.mem_cons_self
    · exact List.mem_cons_of_mem _ q
theorem lstMax_le {l : List Int} : ∀ y ∈ l, y ≤ lstMax l := by
  cases l with
  | nil => exact fun y h => nomatch h
  | cons x r =>
    intro y hy
    rcases List.mem_cons.mp hy with rfl | hy
    · exact foldl_max_le.1
    · exact foldl_max_le.2 y hy
/-- the measures of the ends of all the edges -/
def endsL (s : List Int) (f : Int) (d : List Int) : List Int → List Int
  | [] => []
  | b :: r => end0 s f b d :: end1 s f b d :: endsL s f d r
theorem endsL_app (s : List Int) (f : Int) (d : List Int) : ∀ (l m : List Int), endsL s f d (l ++ m) = endsL s f d l ++ endsL s f d m
  | [], _ => rfl
  | b :: r, m => by
    show end0 s f b d :: end1 s f b d :: endsL s f d (r ++ m) = _
    rw [endsL_app s f d r m]
    rfl
theorem endsL_len (s : List Int) (f : Int) (d : List Int) : ∀ l : List Int, (endsL s f d l).length = 2 * l.length
  | [] => rfl
  | b :: r => by
    show (endsL s f d r).length + 1 + 1 = 2 * (r.length + 1)
    rw [endsL_len s f d r]
    omega
theorem take_next {l : List Int} {i : Nat} (h : i < l.length) : l.take (i + 1) = l.take i ++ [l.getD i 0] := by
  rw [List.take_succ, List.getElem?_eq_getElem h, List.getD_eq_getElem?_getD, List.getElem?_eq_getElem h]
  rfl
def rngL (s : List Int) (f : Int) (d : List Int) : List Int := endsL s f d (besidesL f)
end K27
namespace K27
def stepsM (f x y : Int) : List Int := ([0, 0, 0].set (a1 f).toNat x).set (a2 f).toNat y
def fourM (f p q : Int) : List (List Int) := [stepsM f p q, stepsM f (-q) p, stepsM f (-p) (-q), stepsM f q (-p)]
def manyM (p q : Int) : Int := if p * q > 1 then p * q else 1
def spotM (s : List Int) (f k : Int) : List Int := ((List.replicate 3 (gi s (f / 2) * (f % 2))).set (a1 f).toNat (gi s (a1 f) * (k / 2))).set (a2 f).toNat (gi s (a2 f) * (k % 2))
def spotsM (s : List Int) (f : Int) (n : Nat) : List (List Int) := (List.range n).map fun i : Nat => spotM s f (0 + (i : Int))
def toldM (s : List Int) (f : Int) (d : List Int) : List Int := (spotsM s f 4).map fun z => meas f d z
theorem stepsM_len {f x y : Int} : (stepsM f x y).length = 3 := by
  unfold stepsM
  rw [List.length_set, List.length_set]
  rfl
theorem spotM_len {s : List Int} {f k : Int} : (spotM s f k).length = 3 := by
  unfold spotM
  rw [List.length_set, List.length_set]
  rfl
theorem spotsM_next (s : List Int) (f : Int) (n : Nat) : spotsM s f (n + 1) = spotsM s f n ++ [spotM s f (0 + (n : Int))] := by
  unfold spotsM
  rw [List.range_succ, List.map_append]
  rfl
theorem mod2 {b : Int} : b % 2 = b - b / 2 * 2 := by omega
end K27
namespace K27
def bstep (s : List Int) (sc : Int) (pl d : List Int) (acc : Option (Int × Int)) (ax : Int) : Option (Int × Int) :=
  if gi d ax = 0 then acc else
    match acc with
    | none => some ((if 0 < gi d ax then gi s ax * sc - gi pl ax else gi pl ax), (if gi d ax < 0 then -gi d ax else gi d ax))
    | some (g, z) => if (if 0 < gi d ax then gi s ax * sc - gi pl ax else gi pl ax) * z < g * (if gi d ax < 0 then -gi d ax else gi d ax) then some ((if 0 < gi d ax then gi s ax * sc - gi pl ax else gi pl ax), (if gi d ax < 0 then -gi d ax else gi d ax)) else some (g, z)
def bestN (s : List Int) (sc : Int) (pl d : List Int) : Nat → Option (Int × Int)
  | 0 => none
  | n + 1 => bstep s sc pl d (bestN s sc pl d n) (0 + (n : Int))
def endM (pl d : List Int) (g z : Int) : List Int := (List.range 3).map fun i : Nat => gi pl (0 + (i : Int)) + gi d (0 + (i : Int)) * g / z
def overA (s : List Int) (sc : Int) (e d : List Int) (ax : Int) : List Int := if 0 < gi d ax ∧ gi e ax = gi s ax * sc then [2 * ax + 1] else []
def overB (e d : List Int) (ax : Int) : List Int := if gi d ax < 0 ∧ gi e ax = 0 then [2 * ax] else []
def overN (s : List Int) (sc : Int) (e d : List Int) : Nat → List Int
  | 0 => []
  | n + 1 => (overN s sc e d n ++ overA s sc e d (0 + (n : Int))) ++ overB e d (0 + (n : Int))
theorem bestN_b {s : List Int} {sc : Int} {pl d : List Int} (hB : Bd 1000 d) (hd : d.length = 3) : ∀ {n : Nat} {g z : Int}, n ≤ 3 → bestN s sc pl d n = some (g, z) → 0 < z ∧ z ≤ 1000
  | 0, _, _, _, h => by cases h
  | n + 1, g, z, hn, h => by
    have q := hB.at (show (0 : Int) ≤ 0 + (n : Int) by omega) (by rw [hd]; omega)
    have ih := fun g z => bestN_b (s := s) (sc := sc) (pl := pl) hB hd (n := n) (g := g) (z := z) (by omega)
    have h : bstep s sc pl d (bestN s sc pl d n) (0 + (n : Int)) = some (g, z) := h
    unfold bstep at h
    by_cases e : gi d (0 + (n : Int)) = 0
    · rw [if_pos e] at h
      exact ih g z h
    · rw [if_neg e] at h
      have hz : 0 < (if gi d (0 + (n : Int)) < 0 then -gi d (0 + (n : Int)) else gi d (0 + (n : Int))) ∧ (if gi d (0 + (n : Int)) < 0 then -gi d (0 + (n : Int)) else gi d (0 + (n : Int))) ≤ 1000 := by split <;> omega
      cases e2 : bestN s sc pl d n with
      | none =>
        rw [e2] at h
        have h := Option.some.inj h
        cases h
        exact hz
      | some r =>
        obtain ⟨g0, z0⟩ := r
        rw [e2] at h
        dsimp only at h
        generalize (if 0 < gi d (0 + (n : Int)) then gi s (0 + (n : Int)) * sc - gi pl (0 + (n : Int)) else gi pl (0 + (n : Int))) = gp at h
        generalize (if gi d (0 + (n : Int)) < 0 then -gi d (0 + (n : Int)) else gi d (0 + (n : Int))) = sz at h hz
        split at h
        · have h := Option.some.inj h
          cases h
          exact hz
        · have h := Option.some.inj h
          cases h
          exact ih _ _ e2
theorem overN_len {s : List Int} {sc : Int} {e d : List Int} : ∀ n : Nat, (overN s sc e d n).length ≤ 2 * n
  | 0 => Nat.le_refl 0
  | n + 1 => by
    have ih := @overN_len s sc e d n
    show ((overN s sc e d n ++ overA s sc e d (0 + (n : Int))) ++ overB e d (0 + (n : Int))).length ≤ _
    rw [List.length_append, List.length_append]
    have h1 : (overA s sc e d (0 + (n : Int))).length ≤ 1 := by unfold overA; split <;> simp
    have h2 : (overB e d (0 + (n : Int))).length ≤ 1 := by unfold overB; split <;> simp
    omega
theorem endM_len {pl d : List Int} {g z : Int} : (endM pl d g z).length = 3 := by
  unfold endM
  rw [List.length_map, List.length_range]
end K27
namespace K27
def idxM (N b : Int) (w P : List Int) : Int := (meas b w P / N - 1) / 2
def cb2 (c : Int) : List Int := [c / 4, c / 2 % 2, c % 2]
def cornT (fs : List Int) (c : Int) : Option Int := if fs.filter (fun f => !decide (gi (cb2 c) (f / 2) = f % 2)) = [] then some c else none
def cornO (fs : List Int) : Option Int := fstM (cornT fs) [0, 1, 2, 3, 4, 5, 6, 7]
theorem filter_len (l : List Int) (p : Int → Bool) : (l.filter p).length ≤ l.length := List.length_filter_le _ _
end K27
set_option maxHeartbeats 4000000
/-! The head's facts by names. -/
namespace K27
open PySem PySem.Spec PyProof.Rows L2
/-- what the top has left -/
structure Tx (K : PySem.W.Frag) (mg : Str → Option Value) : Prop where
  c : He.SaysD faL fnL K
  ex : exB K = true
  glo : ∀ x, (He.Fa.glo x).ok K = true → mg x = some (.ref (He.ga K x))
  free : ∀ x, (He.Fa.free x).ok K = true → mg x = none
  int : ∀ x i, (He.Fa.int x i).ok K = true → ∃ t, mg x = some (.int i t)
  gcd : mg "gcd" = some (.builtin "math.gcd")
section
variable {K : PySem.W.Frag} {mg : Str → Option Value}
theorem gcd_ok {h : Heap} (X : K.In h) (G : h.Ns mainGlobals mg) (e : exB K = true) : mg "gcd" = some (.builtin "math.gcd") := by
  have h1 := (He.ba e).1
  cases q : PySem.W.nsIn K mainGlobals "gcd" with
  | none =>
    rw [q] at h1
    cases h1
  | some o =>
    rw [q] at h1
    cases o with
    | none => cases h1
    | some v =>
      cases v with
      | builtin n =>
        have e2 : n = "math.gcd" := of_decide_eq_true h1
        rw [e2] at q
        exact PySem.W.mg_of X G q
      | _ => cases h1
theorem tx_of {h : Heap} (X : K.In h) (G : h.Ns mainGlobals mg) (c : He.SaysD faL fnL K) (e : exB K = true) : Tx K mg :=
  ⟨c, e, fun x q => He.glo_ok X G q, fun x q => He.free_ok X G q, fun x i q => He.int_ok X G q, gcd_ok X G e⟩
variable (T : Tx K mg)
include T
theorem Tx.D_BadFaceInit : ∃ fd, FunD K d_BadFaceInit.name d_BadFaceInit.qual d_BadFaceInit.params d_BadFaceInit.body d_BadFaceInit.scope (d_BadFaceInit.dvs K) (d_BadFaceInit.kws K) (He.fAd K d_BadFaceInit.at_) fd := T.c.def_ 0 (d := d_BadFaceInit) rfl
theorem Tx.D_BadDirectionInit : ∃ fd, FunD K d_BadDirectionInit.name d_BadDirectionInit.qual d_BadDirectionInit.params d_BadDirectionInit.body d_BadDirectionInit.scope (d_BadDirectionInit.dvs K) (d_BadDirectionInit.kws K) (He.fAd K d_BadDirectionInit.at_) fd := T.c.def_ 1 (d := d_BadDirectionInit) rfl
theorem Tx.D_BadStripInit : ∃ fd, FunD K d_BadStripInit.name d_BadStripInit.qual d_BadStripInit.params d_BadStripInit.body d_BadStripInit.scope (d_BadStripInit.dvs K) (d_BadStripInit.kws K) (He.fAd K d_BadStripInit.at_) fd := T.c.def_ 2 (d := d_BadStripInit) rfl
theorem Tx.D_is_whole : ∃ fd, FunD K d_is_whole.name d_is_whole.qual d_is_whole.params d_is_whole.body d_is_whole.scope (d_is_whole.dvs K) (d_is_whole.kws K) (He.fAd K d_is_whole.at_) fd := T.c.def_ 3 (d := d_is_whole) rfl
theorem Tx.D_check_face : ∃ fd, FunD K d_check_face.name d_check_face.qual d_check_face.params d_check_face.body d_check_face.scope (d_check_face.dvs K) (d_check_face.kws K) (He.fAd K d_check_face.at_) fd := T.c.def_ 4 (d := d_check_face) rfl
theorem Tx.D_check_corner : ∃ fd, FunD K d_check_corner.name d_check_corner.qual d_check_corner.params d_check_corner.body d_check_corner.scope (d_check_corner.dvs K) (d_check_corner.kws K) (He.fAd K d_check_corner.at_) fd := T.c.def_ 5 (d := d_check_corner) rfl
theorem Tx.D_face_axes : ∃ fd, FunD K d_face_axes.name d_face_axes.qual d_face_axes.params d_face_axes.body d_face_axes.scope (d_face_axes.dvs K) (d_face_axes.kws K) (He.fAd K d_face_axes.at_) fd := T.c.def_ 6 (d := d_face_axes) rfl
theorem Tx.D_faces_beside : ∃ fd, FunD K d_faces_beside.name d_faces_beside.qual d_faces_beside.params d_faces_beside.body d_faces_beside.scope (d_faces_beside.dvs K) (d_faces_beside.kws K) (He.fAd K d_faces_beside.at_) fd := T.c.def_ 7 (d := d_faces_beside) rfl
theorem Tx.D_corner_bits : ∃ fd, FunD K d_corner_bits.name d_corner_bits.qual d_corner_bits.params d_corner_bits.body d_corner_bits.scope (d_corner_bits.dvs K) (d_corner_bits.kws K) (He.fAd K d_corner_bits.at_) fd := T.c.def_ 8 (d := d_corner_bits) rfl
theorem Tx.D_faces_of_corner : ∃ fd, FunD K d_faces_of_corner.name d_faces_of_corner.qual d_faces_of_corner.params d_faces_of_corner.body d_faces_of_corner.scope (d_faces_of_corner.dvs K) (d_faces_of_corner.kws K) (He.fAd K d_faces_of_corner.at_) fd := T.c.def_ 9 (d := d_faces_of_corner) rfl
theorem Tx.D_BoxInit : ∃ fd, FunD K d_BoxInit.name d_BoxInit.qual d_BoxInit.params d_BoxInit.body d_BoxInit.scope (d_BoxInit.dvs K) (d_BoxInit.kws K) (He.fAd K d_BoxInit.at_) fd := T.c.def_ 10 (d := d_BoxInit) rfl
theorem Tx.D_framed : ∃ fd, FunD K d_framed.name d_framed.qual d_framed.params d_framed.body d_framed.scope (d_framed.dvs K) (d_framed.kws K) (He.fAd K d_framed.at_) fd := T.c.def_ 11 (d := d_framed) rfl
theorem Tx.D_check_direction : ∃ fd, FunD K d_check_direction.name d_check_direction.qual d_check_direction.params d_check_direction.body d_check_direction.scope (d_check_direction.dvs K) (d_check_direction.kws K) (He.fAd K d_check_direction.at_) fd := T.c.def_ 12 (d := d_check_direction) rfl
theorem Tx.D_outward_step : ∃ fd, FunD K d_outward_step.name d_outward_step.qual d_outward_step.params d_outward_step.body d_outward_step.scope (d_outward_step.dvs K) (d_outward_step.kws K) (He.fAd K d_outward_step.at_) fd := T.c.def_ 13 (d := d_outward_step) rfl
theorem Tx.D_StripInit : ∃ fd, FunD K d_StripInit.name d_StripInit.qual d_StripInit.params d_StripInit.body d_StripInit.scope (d_StripInit.dvs K) (d_StripInit.kws K) (He.fAd K d_StripInit.at_) fd := T.c.def_ 14 (d := d_StripInit) rfl
theorem Tx.D_StripEq : ∃ fd, FunD K d_StripEq.name d_StripEq.qual d_StripEq.params d_StripEq.body d_StripEq.scope (d_StripEq.dvs K) (d_StripEq.kws K) (He.fAd K d_StripEq.at_) fd := T.c.def_ 15 (d := d_StripEq) rfl
theorem Tx.D_SplitInit : ∃ fd, FunD K d_SplitInit.name d_SplitInit.qual d_SplitInit.params d_SplitInit.body d_SplitInit.scope (d_SplitInit.dvs K) (d_SplitInit.kws K) (He.fAd K d_SplitInit.at_) fd := T.c.def_ 16 (d := d_SplitInit) rfl
theorem Tx.D_SplitEq : ∃ fd, FunD K d_SplitEq.name d_SplitEq.qual d_SplitEq.params d_SplitEq.body d_SplitEq.scope (d_SplitEq.dvs K) (d_SplitEq.kws K) (He.fAd K d_SplitEq.at_) fd := T.c.def_ 17 (d := d_SplitEq) rfl
theorem Tx.D_measure_at : ∃ fd, FunD K d_measure_at.name d_measure_at.qual d_measure_at.params d_measure_at.body d_measure_at.scope (d_measure_at.dvs K) (d_measure_at.kws K) (He.fAd K d_measure_at.at_) fd := T.c.def_ 18 (d := d_measure_at) rfl
theorem Tx.D_face_level : ∃ fd, FunD K d_face_level.name d_face_level.qual d_face_level.params d_face_level.body d_face_level.scope (d_face_level.dvs K) (d_face_level.kws K) (He.fAd K d_face_level.at_) fd := T.c.def_ 19 (d := d_face_level) rfl
theorem Tx.D_edge_ends : ∃ fd, FunD K d_edge_ends.name d_edge_ends.qual d_edge_ends.params d_edge_ends.body d_edge_ends.scope (d_edge_ends.dvs K) (d_edge_ends.kws K) (He.fAd K d_edge_ends.at_) fd := T.c.def_ 20 (d := d_edge_ends) rfl
theorem Tx.D_sideways_range : ∃ fd, FunD K d_sideways_range.name d_sideways_range.qual d_sideways_range.params d_sideways_range.body d_sideways_range.scope (d_sideways_range.dvs K) (d_sideways_range.kws K) (He.fAd K d_sideways_range.at_) fd := T.c.def_ 21 (d := d_sideways_range) rfl
theorem Tx.D_check_strip : ∃ fd, FunD K d_check_strip.name d_check_strip.qual d_check_strip.params d_check_strip.body d_check_strip.scope (d_check_strip.dvs K) (d_check_strip.kws K) (He.fAd K d_check_strip.at_) fd := T.c.def_ 22 (d := d_check_strip) rfl
theorem Tx.D_leaving_faces : ∃ fd, FunD K d_leaving_faces.name d_leaving_faces.qual d_leaving_faces.params d_leaving_faces.body d_leaving_faces.scope (d_leaving_faces.dvs K) (d_leaving_faces.kws K) (He.fAd K d_leaving_faces.at_) fd := T.c.def_ 23 (d := d_leaving_faces) rfl
theorem Tx.D_turned_back : ∃ fd, FunD K d_turned_back.name d_turned_back.qual d_turned_back.params d_turned_back.body d_turned_back.scope (d_turned_back.dvs K) (d_turned_back.kws K) (He.fAd K d_turned_back.at_) fd := T.c.def_ 24 (d := d_turned_back) rfl
theorem Tx.D_gone_over : ∃ fd, FunD K d_gone_over.name d_gone_over.qual d_gone_over.params d_gone_over.body d_gone_over.scope (d_gone_over.dvs K) (d_gone_over.kws K) (He.fAd K d_gone_over.at_) fd := T.c.def_ 25 (d := d_gone_over) rfl
theorem Tx.D_onward : ∃ fd, FunD K d_onward.name d_onward.qual d_onward.params d_onward.body d_onward.scope (d_onward.dvs K) (d_onward.kws K) (He.fAd K d_onward.at_) fd := T.c.def_ 26 (d := d_onward) rfl
theorem Tx.D_split_ahead : ∃ fd, FunD K d_split_ahead.name d_split_ahead.qual d_split_ahead.params d_split_ahead.body d_split_ahead.scope (d_split_ahead.dvs K) (d_split_ahead.kws K) (He.fAd K d_split_ahead.at_) fd := T.c.def_ 27 (d := d_split_ahead) rfl
theorem Tx.D_strip_after : ∃ fd, FunD K d_strip_after.name d_strip_after.qual d_strip_after.params d_strip_after.body d_strip_after.scope (d_strip_after.dvs K) (d_strip_after.kws K) (He.fAd K d_strip_after.at_) fd := T.c.def_ 28 (d := d_strip_after) rfl
theorem Tx.D_strip_before : ∃ fd, FunD K d_strip_before.name d_strip_before.qual d_strip_before.params d_strip_before.body d_strip_before.scope (d_strip_before.dvs K) (d_strip_before.kws K) (He.fAd K d_strip_before.at_) fd := T.c.def_ 29 (d := d_strip_before) rfl
theorem Tx.D_lane_of_strip : ∃ fd, FunD K d_lane_of_strip.name d_lane_of_strip.qual d_lane_of_strip.params d_lane_of_strip.body d_lane_of_strip.scope (d_lane_of_strip.dvs K) (d_lane_of_strip.kws K) (He.fAd K d_lane_of_strip.at_) fd := T.c.def_ 30 (d := d_lane_of_strip) rfl
theorem Tx.D_law_hand : ∃ fd, FunD K d_law_hand.name d_law_hand.qual d_law_hand.params d_law_hand.body d_law_hand.scope (d_law_hand.dvs K) (d_law_hand.kws K) (He.fAd K d_law_hand.at_) fd := T.c.def_ 31 (d := d_law_hand) rfl
theorem Tx.D_law_mixed : ∃ fd, FunD K d_law_mixed.name d_law_mixed.qual d_law_mixed.params d_law_mixed.body d_law_mixed.scope (d_law_mixed.dvs K) (d_law_mixed.kws K) (He.fAd K d_law_mixed.at_) fd := T.c.def_ 32 (d := d_law_mixed) rfl
theorem Tx.D_law_take : ∃ fd, FunD K d_law_take.name d_law_take.qual d_law_take.params d_law_take.body d_law_take.scope (d_law_take.dvs K) (d_law_take.kws K) (He.fAd K d_law_take.at_) fd := T.c.def_ 33 (d := d_law_take) rfl
theorem Tx.D_law_axes : ∃ fd, FunD K d_law_axes.name d_law_axes.qual d_law_axes.params d_law_axes.body d_law_axes.scope (d_law_axes.dvs K) (d_law_axes.kws K) (He.fAd K d_law_axes.at_) fd := T.c.def_ 34 (d := d_law_axes) rfl
theorem Tx.D_law_steps : ∃ fd, FunD K d_law_steps.name d_law_steps.qual d_law_steps.params d_law_steps.body d_law_steps.scope (d_law_steps.dvs K) (d_law_steps.kws K) (He.fAd K d_law_steps.at_) fd := T.c.def_ 35 (d := d_law_steps) rfl
theorem Tx.D_law_four : ∃ fd, FunD K d_law_four.name d_law_four.qual d_law_four.params d_law_four.body d_law_four.scope (d_law_four.dvs K) (d_law_four.kws K) (He.fAd K d_law_four.at_) fd := T.c.def_ 36 (d := d_law_four) rfl
theorem Tx.D_law_out : ∃ fd, FunD K d_law_out.name d_law_out.qual d_law_out.params d_law_out.body d_law_out.scope (d_law_out.dvs K) (d_law_out.kws K) (He.fAd K d_law_out.at_) fd := T.c.def_ 37 (d := d_law_out) rfl
theorem Tx.D_law_over : ∃ fd, FunD K d_law_over.name d_law_over.qual d_law_over.params d_law_over.body d_law_over.scope (d_law_over.dvs K) (d_law_over.kws K) (He.fAd K d_law_over.at_) fd := T.c.def_ 38 (d := d_law_over) rfl
theorem Tx.D_law_across : ∃ fd, FunD K d_law_across.name d_law_across.qual d_law_across.params d_law_across.body d_law_across.scope (d_law_across.dvs K) (d_law_across.kws K) (He.fAd K d_law_across.at_) fd := T.c.def_ 39 (d := d_law_across) rfl
theorem Tx.D_law_pass : ∃ fd, FunD K d_law_pass.name d_law_pass.qual d_law_pass.params d_law_pass.body d_law_pass.scope (d_law_pass.dvs K) (d_law_pass.kws K) (He.fAd K d_law_pass.at_) fd := T.c.def_ 40 (d := d_law_pass) rfl
theorem Tx.D_law_tuples : ∃ fd, FunD K d_law_tuples.name d_law_tuples.qual d_law_tuples.params d_law_tuples.body d_law_tuples.scope (d_law_tuples.dvs K) (d_law_tuples.kws K) (He.fAd K d_law_tuples.at_) fd := T.c.def_ 41 (d := d_law_tuples) rfl
theorem Tx.D_law_is_int : ∃ fd, FunD K d_law_is_int.name d_law_is_int.qual d_law_is_int.params d_law_is_int.body d_law_is_int.scope (d_law_is_int.dvs K) (d_law_is_int.kws K) (He.fAd K d_law_is_int.at_) fd := T.c.def_ 42 (d := d_law_is_int) rfl
theorem Tx.D_law_case : ∃ fd, FunD K d_law_case.name d_law_case.qual d_law_case.params d_law_case.body d_law_case.scope (d_law_case.dvs K) (d_law_case.kws K) (He.fAd K d_law_case.at_) fd := T.c.def_ 43 (d := d_law_case) rfl
theorem Tx.D_law_many : ∃ fd, FunD K d_law_many.name d_law_many.qual d_law_many.params d_law_many.body d_law_many.scope (d_law_many.dvs K) (d_law_many.kws K) (He.fAd K d_law_many.at_) fd := T.c.def_ 44 (d := d_law_many) rfl
theorem Tx.D_law_spots : ∃ fd, FunD K d_law_spots.name d_law_spots.qual d_law_spots.params d_law_spots.body d_law_spots.scope (d_law_spots.dvs K) (d_law_spots.kws K) (He.fAd K d_law_spots.at_) fd := T.c.def_ 45 (d := d_law_spots) rfl
theorem Tx.D_law_range : ∃ fd, FunD K d_law_range.name d_law_range.qual d_law_range.params d_law_range.body d_law_range.scope (d_law_range.dvs K) (d_law_range.kws K) (He.fAd K d_law_range.at_) fd := T.c.def_ 46 (d := d_law_range) rfl
theorem Tx.D_law_units : ∃ fd, FunD K d_law_units.name d_law_units.qual d_law_units.params d_law_units.body d_law_units.scope (d_law_units.dvs K) (d_law_units.kws K) (He.fAd K d_law_units.at_) fd := T.c.def_ 47 (d := d_law_units) rfl
theorem Tx.D_law_unit_after : ∃ fd, FunD K d_law_unit_after.name d_law_unit_after.qual d_law_unit_after.params d_law_unit_after.body d_law_unit_after.scope (d_law_unit_after.dvs K) (d_law_unit_after.kws K) (He.fAd K d_law_unit_after.at_) fd := T.c.def_ 48 (d := d_law_unit_after) rfl
theorem Tx.D_law_strip_row : ∃ fd, FunD K d_law_strip_row.name d_law_strip_row.qual d_law_strip_row.params d_law_strip_row.body d_law_strip_row.scope (d_law_strip_row.dvs K) (d_law_strip_row.kws K) (He.fAd K d_law_strip_row.at_) fd := T.c.def_ 49 (d := d_law_strip_row) rfl
theorem Tx.D_law_corner_on : ∃ fd, FunD K d_law_corner_on.name d_law_corner_on.qual d_law_corner_on.params d_law_corner_on.body d_law_corner_on.scope (d_law_corner_on.dvs K) (d_law_corner_on.kws K) (He.fAd K d_law_corner_on.at_) fd := T.c.def_ 50 (d := d_law_corner_on) rfl
theorem Tx.D_law_strip_after : ∃ fd, FunD K d_law_strip_after.name d_law_strip_after.qual d_law_strip_after.params d_law_strip_after.body d_law_strip_after.scope (d_law_strip_after.dvs K) (d_law_strip_after.kws K) (He.fAd K d_law_strip_after.at_) fd := T.c.def_ 51 (d := d_law_strip_after) rfl
theorem Tx.D_law_strip_back : ∃ fd, FunD K d_law_strip_back.name d_law_strip_back.qual d_law_strip_back.params d_law_strip_back.body d_law_strip_back.scope (d_law_strip_back.dvs K) (d_law_strip_back.kws K) (He.fAd K d_law_strip_back.at_) fd := T.c.def_ 52 (d := d_law_strip_back) rfl
theorem Tx.D_law_strip_before : ∃ fd, FunD K d_law_strip_before.name d_law_strip_before.qual d_law_strip_before.params d_law_strip_before.body d_law_strip_before.scope (d_law_strip_before.dvs K) (d_law_strip_before.kws K) (He.fAd K d_law_strip_before.at_) fd := T.c.def_ 53 (d := d_law_strip_before) rfl
theorem Tx.D_law_some_strip : ∃ fd, FunD K d_law_some_strip.name d_law_some_strip.qual d_law_some_strip.params d_law_some_strip.body d_law_some_strip.scope (d_law_some_strip.dvs K) (d_law_some_strip.kws K) (He.fAd K d_law_some_strip.at_) fd := T.c.def_ 54 (d := d_law_some_strip) rfl
theorem Tx.D_law_as_strip : ∃ fd, FunD K d_law_as_strip.name d_law_as_strip.qual d_law_as_strip.params d_law_as_strip.body d_law_as_strip.scope (d_law_as_strip.dvs K) (d_law_as_strip.kws K) (He.fAd K d_law_as_strip.at_) fd := T.c.def_ 55 (d := d_law_as_strip) rfl
theorem Tx.D_law_gone : ∃ fd, FunD K d_law_gone.name d_law_gone.qual d_law_gone.params d_law_gone.body d_law_gone.scope (d_law_gone.dvs K) (d_law_gone.kws K) (He.fAd K d_law_gone.at_) fd := T.c.def_ 56 (d := d_law_gone) rfl
theorem Tx.D_law_steps_right : ∃ fd, FunD K d_law_steps_right.name d_law_steps_right.qual d_law_steps_right.params d_law_steps_right.body d_law_steps_right.scope (d_law_steps_right.dvs K) (d_law_steps_right.kws K) (He.fAd K d_law_steps_right.at_) fd := T.c.def_ 57 (d := d_law_steps_right) rfl
theorem Tx.D_law_refused : ∃ fd, FunD K d_law_refused.name d_law_refused.qual d_law_refused.params d_law_refused.body d_law_refused.scope (d_law_refused.dvs K) (d_law_refused.kws K) (He.fAd K d_law_refused.at_) fd := T.c.def_ 58 (d := d_law_refused) rfl
theorem Tx.D_law_spoilt : ∃ fd, FunD K d_law_spoilt.name d_law_spoilt.qual d_law_spoilt.params d_law_spoilt.body d_law_spoilt.scope (d_law_spoilt.dvs K) (d_law_spoilt.kws K) (He.fAd K d_law_spoilt.at_) fd := T.c.def_ 59 (d := d_law_spoilt) rfl
theorem Tx.D_law_range_refused : ∃ fd, FunD K d_law_range_refused.name d_law_range_refused.qual d_law_range_refused.params d_law_range_refused.body d_law_range_refused.scope (d_law_range_refused.dvs K) (d_law_range_refused.kws K) (He.fAd K d_law_range_refused.at_) fd := T.c.def_ 60 (d := d_law_range_refused) rfl
theorem Tx.D_law_equal_right : ∃ fd, FunD K d_law_equal_right.name d_law_equal_right.qual d_law_equal_right.params d_law_equal_right.body d_law_equal_right.scope (d_law_equal_right.dvs K) (d_law_equal_right.kws K) (He.fAd K d_law_equal_right.at_) fd := T.c.def_ 61 (d := d_law_equal_right) rfl
theorem Tx.D_law : ∃ fd, FunD K d_law.name d_law.qual d_law.params d_law.body d_law.scope (d_law.dvs K) (d_law.kws K) (He.fAd K d_law.at_) fd := T.c.def_ 62 (d := d_law) rfl
theorem Tx.g_is_whole : mg "is_whole" = some (.ref (He.ga K "is_whole")) := T.glo _ (T.c.fact 0 (f := .glo "is_whole") rfl)
theorem Tx.g_check_face : mg "check_face" = some (.ref (He.ga K "check_face")) := T.glo _ (T.c.fact 1 (f := .glo "check_face") rfl)
theorem Tx.g_check_corner : mg "check_corner" = some (.ref (He.ga K "check_corner")) := T.glo _ (T.c.fact 2 (f := .glo "check_corner") rfl)
theorem Tx.g_face_axes : mg "face_axes" = some (.ref (He.ga K "face_axes")) := T.glo _ (T.c.fact 3 (f := .glo "face_axes") rfl)
theorem Tx.g_faces_beside : mg "faces_beside" = some (.ref (He.ga K "faces_beside")) := T.glo _ (T.c.fact 4 (f := .glo "faces_beside") rfl)
theorem Tx.g_corner_bits : mg "corner_bits" = some (.ref (He.ga K "corner_bits")) := T.glo _ (T.c.fact 5 (f := .glo "corner_bits") rfl)
theorem Tx.g_faces_of_corner : mg "faces_of_corner" = some (.ref (He.ga K "faces_of_corner")) := T.glo _ (T.c.fact 6 (f := .glo "faces_of_corner") rfl)
theorem Tx.g_framed : mg "framed" = some (.ref (He.ga K "framed")) := T.glo _ (T.c.fact 7 (f := .glo "framed") rfl)
theorem Tx.g_check_direction : mg "check_direction" = some (.ref (He.ga K "check_direction")) := T.glo _ (T.c.fact 8 (f := .glo "check_direction") rfl)
theorem Tx.g_outward_step : mg "outward_step" = some (.ref (He.ga K "outward_step")) := T.glo _ (T.c.fact 9 (f := .glo "outward_step") rfl)
theorem Tx.g_measure_at : mg "measure_at" = some (.ref (He.ga K "measure_at")) := T.glo _ (T.c.fact 10 (f := .glo "measure_at") rfl)
theorem Tx.g_face_level : mg "face_level" = some (.ref (He.ga K "face_level")) := T.glo _ (T.c.fact 11 (f := .glo "face_level") rfl)
theorem Tx.g_edge_ends : mg "edge_ends" = some (.ref (He.ga K "edge_ends")) := T.glo _ (T.c.fact 12 (f := .glo "edge_ends") rfl)
theorem Tx.g_sideways_range : mg "sideways_range" = some (.ref (He.ga K "sideways_range")) := T.glo _ (T.c.fact 13 (f := .glo "sideways_range") rfl)
theorem Tx.g_check_strip : mg "check_strip" = some (.ref (He.ga K "check_strip")) := T.glo _ (T.c.fact 14 (f := .glo "check_strip") rfl)
theorem Tx.g_leaving_faces : mg "leaving_faces" = some (.ref (He.ga K "leaving_faces")) := T.glo _ (T.c.fact 15 (f := .glo "leaving_faces") rfl)
theorem Tx.g_turned_back : mg "turned_back" = some (.ref (He.ga K "turned_back")) := T.glo _ (T.c.fact 16 (f := .glo "turned_back") rfl)
theorem Tx.g_gone_over : mg "gone_over" = some (.ref (He.ga K "gone_over")) := T.glo _ (T.c.fact 17 (f := .glo "gone_over") rfl)
theorem Tx.g_onward : mg "onward" = some (.ref (He.ga K "onward")) := T.glo _ (T.c.fact 18 (f := .glo "onward") rfl)
theorem Tx.g_split_ahead : mg "split_ahead" = some (.ref (He.ga K "split_ahead")) := T.glo _ (T.c.fact 19 (f := .glo "split_ahead") rfl)
theorem Tx.g_strip_after : mg "strip_after" = some (.ref (He.ga K "strip_after")) := T.glo _ (T.c.fact 20 (f := .glo "strip_after") rfl)
theorem Tx.g_strip_before : mg "strip_before" = some (.ref (He.ga K "strip_before")) := T.glo _ (T.c.fact 21 (f := .glo "strip_before") rfl)
theorem Tx.g_lane_of_strip : mg "lane_of_strip" = some (.ref (He.ga K "lane_of_strip")) := T.glo _ (T.c.fact 22 (f := .glo "lane_of_strip") rfl)
theorem Tx.g_law_hand : mg "_law_hand" = some (.ref (He.ga K "_law_hand")) := T.glo _ (T.c.fact 23 (f := .glo "_law_hand") rfl)
theorem Tx.g_law_mixed : mg "_law_mixed" = some (.ref (He.ga K "_law_mixed")) := T.glo _ (T.c.fact 24 (f := .glo "_law_mixed") rfl)
theorem Tx.g_law_take : mg "_law_take" = some (.ref (He.ga K "_law_take")) := T.glo _ (T.c.fact 25 (f := .glo "_law_take") rfl)
theorem Tx.g_law_axes : mg "_law_axes" = some (.ref (He.ga K "_law_axes")) := T.glo _ (T.c.fact 26 (f := .glo "_law_axes") rfl)
theorem Tx.g_law_steps : mg "_law_steps" = some (.ref (He.ga K "_law_steps")) := T.glo _ (T.c.fact 27 (f := .glo "_law_steps") rfl)
theorem Tx.g_law_four : mg "_law_four" = some (.ref (He.ga K "_law_four")) := T.glo _ (T.c.fact 28 (f := .glo "_law_four") rfl)
theorem Tx.g_law_out : mg "_law_out" = some (.ref (He.ga K "_law_out")) := T.glo _ (T.c.fact 29 (f := .glo "_law_out") rfl)
theorem Tx.g_law_over : mg "_law_over" = some (.ref (He.ga K "_law_over")) := T.glo _ (T.c.fact 30 (f := .glo "_law_over") rfl)
theorem Tx.g_law_across : mg "_law_across" = some (.ref (He.ga K "_law_across")) := T.glo _ (T.c.fact 31 (f := .glo "_law_across") rfl)
theorem Tx.g_law_pass : mg "_law_pass" = some (.ref (He.ga K "_law_pass")) := T.glo _ (T.c.fact 32 (f := .glo "_law_pass") rfl)
theorem Tx.g_law_tuples : mg "_law_tuples" = some (.ref (He.ga K "_law_tuples")) := T.glo _ (T.c.fact 33 (f := .glo "_law_tuples") rfl)
theorem Tx.g_law_is_int : mg "_law_is_int" = some (.ref (He.ga K "_law_is_int")) := T.glo _ (T.c.fact 34 (f := .glo "_law_is_int") rfl)
theorem Tx.g_law_case : mg "_law_case" = some (.ref (He.ga K "_law_case")) := T.glo _ (T.c.fact 35 (f := .glo "_law_case") rfl)
theorem Tx.g_law_many : mg "_law_many" = some (.ref (He.ga K "_law_many")) := T.glo _ (T.c.fact 36 (f := .glo "_law_many") rfl)
theorem Tx.g_law_spots : mg "_law_spots" = some (.ref (He.ga K "_law_spots")) := T.glo _ (T.c.fact 37 (f := .glo "_law_spots") rfl)
theorem Tx.g_law_range : mg "_law_range" = some (.ref (He.ga K "_law_range")) := T.glo _ (T.c.fact 38 (f := .glo "_law_range") rfl)
theorem Tx.g_law_units : mg "_law_units" = some (.ref (He.ga K "_law_units")) := T.glo _ (T.c.fact 39 (f := .glo "_law_units") rfl)
theorem Tx.g_law_unit_after : mg "_law_unit_after" = some (.ref (He.ga K "_law_unit_after")) := T.glo _ (T.c.fact 40 (f := .glo "_law_unit_after") rfl)
theorem Tx.g_law_strip_row : mg "_law_strip_row" = some (.ref (He.ga K "_law_strip_row")) := T.glo _ (T.c.fact 41 (f := .glo "_law_strip_row") rfl)
theorem Tx.g_law_corner_on : mg "_law_corner_on" = some (.ref (He.ga K "_law_corner_on")) := T.glo _ (T.c.fact 42 (f := .glo "_law_corner_on") rfl)
theorem Tx.g_law_strip_after : mg "_law_strip_after" = some (.ref (He.ga K "_law_strip_after")) := T.glo _ (T.c.fact 43 (f := .glo "_law_strip_after") rfl)
theorem Tx.g_law_strip_back : mg "_law_strip_back" = some (.ref (He.ga K "_law_strip_back")) := T.glo _ (T.c.fact 44 (f := .glo "_law_strip_back") rfl)
theorem Tx.g_law_strip_before : mg "_law_strip_before" = some (.ref (He.ga K "_law_strip_before")) := T.glo _ (T.c.fact 45 (f := .glo "_law_strip_before") rfl)
theorem Tx.g_law_some_strip : mg "_law_some_strip" = some (.ref (He.ga K "_law_some_strip")) := T.glo _ (T.c.fact 46 (f := .glo "_law_some_strip") rfl)
theorem Tx.g_law_as_strip : mg "_law_as_strip" = some (.ref (He.ga K "_law_as_strip")) := T.glo _ (T.c.fact 47 (f := .glo "_law_as_strip") rfl)
theorem Tx.g_law_gone : mg "_law_gone" = some (.ref (He.ga K "_law_gone")) := T.glo _ (T.c.fact 48 (f := .glo "_law_gone") rfl)
theorem Tx.g_law_steps_right : mg "_law_steps_right" = some (.ref (He.ga K "_law_steps_right")) := T.glo _ (T.c.fact 49 (f := .glo "_law_steps_right") rfl)
theorem Tx.g_law_refused : mg "_law_refused" = some (.ref (He.ga K "_law_refused")) := T.glo _ (T.c.fact 50 (f := .glo "_law_refused") rfl)
theorem Tx.g_law_spoilt : mg "_law_spoilt" = some (.ref (He.ga K "_law_spoilt")) := T.glo _ (T.c.fact 51 (f := .glo "_law_spoilt") rfl)
theorem Tx.g_law_range_refused : mg "_law_range_refused" = some (.ref (He.ga K "_law_range_refused")) := T.glo _ (T.c.fact 52 (f := .glo "_law_range_refused") rfl)
theorem Tx.g_law_equal_right : mg "_law_equal_right" = some (.ref (He.ga K "_law_equal_right")) := T.glo _ (T.c.fact 53 (f := .glo "_law_equal_right") rfl)
theorem Tx.g_law : mg "law" = some (.ref (He.ga K "law")) := T.glo _ (T.c.fact 54 (f := .glo "law") rfl)
theorem Tx.g_BadFace : mg "BadFace" = some (.ref (He.ga K "BadFace")) := T.glo _ (T.c.fact 55 (f := .glo "BadFace") rfl)
theorem Tx.g_BadDirection : mg "BadDirection" = some (.ref (He.ga K "BadDirection")) := T.glo _ (T.c.fact 56 (f := .glo "BadDirection") rfl)
theorem Tx.g_BadStrip : mg "BadStrip" = some (.ref (He.ga K "BadStrip")) := T.glo _ (T.c.fact 57 (f := .glo "BadStrip") rfl)
theorem Tx.g_Box : mg "Box" = some (.ref (He.ga K "Box")) := T.glo _ (T.c.fact 58 (f := .glo "Box") rfl)
theorem Tx.g_Strip : mg "Strip" = some (.ref (He.ga K "Strip")) := T.glo _ (T.c.fact 59 (f := .glo "Strip") rfl)
theorem Tx.g_Split : mg "Split" = some (.ref (He.ga K "Split")) := T.glo _ (T.c.fact 60 (f := .glo "Split") rfl)
theorem Tx.g_ParcelError : mg "ParcelError" = some (.ref (He.ga K "ParcelError")) := T.glo _ (T.c.fact 61 (f := .glo "ParcelError") rfl)
theorem Tx.g_FRAMES : mg "FRAMES" = some (.ref (He.ga K "FRAMES")) := T.glo _ (T.c.fact 62 (f := .glo "FRAMES") rfl)
theorem Tx.f_isinstance : mg "isinstance" = none := T.free _ (T.c.fact 63 (f := .free "isinstance") rfl)
theorem Tx.f_bool : mg "bool" = none := T.free _ (T.c.fact 64 (f := .free "bool") rfl)
theorem Tx.f_int : mg "int" = none := T.free _ (T.c.fact 65 (f := .free "int") rfl)
theorem Tx.f_list : mg "list" = none := T.free _ (T.c.fact 66 (f := .free "list") rfl)
theorem Tx.f_tuple : mg "tuple" = none := T.free _ (T.c.fact 67 (f := .free "tuple") rfl)
theorem Tx.f_len : mg "len" = none := T.free _ (T.c.fact 68 (f := .free "len") rfl)
theorem Tx.f_range : mg "range" = none := T.free _ (T.c.fact 69 (f := .free "range") rfl)
theorem Tx.f_min : mg "min" = none := T.free _ (T.c.fact 70 (f := .free "min") rfl)
theorem Tx.f_max : mg "max" = none := T.free _ (T.c.fact 71 (f := .free "max") rfl)
theorem Tx.f_sorted : mg "sorted" = none := T.free _ (T.c.fact 72 (f := .free "sorted") rfl)
theorem Tx.f_enumerate : mg "enumerate" = none := T.free _ (T.c.fact 73 (f := .free "enumerate") rfl)
theorem Tx.f_abs : mg "abs" = none := T.free _ (T.c.fact 74 (f := .free "abs") rfl)
theorem Tx.i_MOST_SIDE : ∃ t, mg "MOST_SIDE" = some (.int 60 t) := T.int _ _ (T.c.fact 75 (f := .int "MOST_SIDE" 60) rfl)
theorem Tx.i_MOST_STEP : ∃ t, mg "MOST_STEP" = some (.int 10000 t) := T.int _ _ (T.c.fact 76 (f := .int "MOST_STEP" 10000) rfl)
theorem Tx.c_Box : Cls K (He.ga K "Box") := He.cls_ok (T.c.fact 77 (f := .cls "Box") rfl)
theorem Tx.c_Strip : Cls K (He.ga K "Strip") := He.cls_ok (T.c.fact 78 (f := .cls "Strip") rfl)
theorem Tx.c_Split : Cls K (He.ga K "Split") := He.cls_ok (T.c.fact 79 (f := .cls "Split") rfl)
theorem Tx.k_Box : Mk K (He.ga K "Box") (He.ma K (He.ga K "Box") "__init__") := He.mkr_ok (T.c.fact 80 (f := .mkr "Box") rfl)
theorem Tx.k_Strip : Mk K (He.ga K "Strip") (He.ma K (He.ga K "Strip") "__init__") := He.mkr_ok (T.c.fact 81 (f := .mkr "Strip") rfl)
theorem Tx.k_Split : Mk K (He.ga K "Split") (He.ma K (He.ga K "Split") "__init__") := He.mkr_ok (T.c.fact 82 (f := .mkr "Split") rfl)
theorem Tx.n_Box_sides : NoAttr K (He.ga K "Box") "sides" := He.noat_ok (T.c.fact 83 (f := .noat "Box" "sides") rfl)
theorem Tx.n_Strip_face : NoAttr K (He.ga K "Strip") "face" := He.noat_ok (T.c.fact 84 (f := .noat "Strip" "face") rfl)
theorem Tx.n_Strip_direction : NoAttr K (He.ga K "Strip") "direction" := He.noat_ok (T.c.fact 85 (f := .noat "Strip" "direction") rfl)
theorem Tx.n_Strip_low : NoAttr K (He.ga K "Strip") "low" := He.noat_ok (T.c.fact 86 (f := .noat "Strip" "low") rfl)
theorem Tx.n_Strip_high : NoAttr K (He.ga K "Strip") "high" := He.noat_ok (T.c.fact 87 (f := .noat "Strip" "high") rfl)
theorem Tx.n_Split_corner : NoAttr K (He.ga K "Split") "corner" := He.noat_ok (T.c.fact 88 (f := .noat "Split" "corner") rfl)
theorem Tx.m_Strip_eq : Meth K (He.ga K "Strip") "__eq__" (He.ma K (He.ga K "Strip") "__eq__") := He.meth_ok (T.c.fact 89 (f := .meth "Strip" "__eq__") rfl)
theorem Tx.m_Split_eq : Meth K (He.ga K "Split") "__eq__" (He.ma K (He.ga K "Split") "__eq__") := He.meth_ok (T.c.fact 90 (f := .meth "Split" "__eq__") rfl)
theorem Tx.m_BadFace_init : Meth K (He.ga K "BadFace") "__init__" (He.ma K (He.ga K "BadFace") "__init__") := He.meth_ok (T.c.fact 91 (f := .meth "BadFace" "__init__") rfl)
theorem Tx.m_BadDirection_init : Meth K (He.ga K "BadDirection") "__init__" (He.ma K (He.ga K "BadDirection") "__init__") := He.meth_ok (T.c.fact 92 (f := .meth "BadDirection" "__init__") rfl)
theorem Tx.m_BadStrip_init : Meth K (He.ga K "BadStrip") "__init__" (He.ma K (He.ga K "BadStrip") "__init__") := He.meth_ok (T.c.fact 93 (f := .meth "BadStrip" "__init__") rfl)
theorem Tx.n_BadFace_face : NoAttr K (He.ga K "BadFace") "face" := He.noat_ok (T.c.fact 94 (f := .noat "BadFace" "face") rfl)
theorem Tx.n_BadDirection_what : NoAttr K (He.ga K "BadDirection") "what" := He.noat_ok (T.c.fact 95 (f := .noat "BadDirection" "what") rfl)
theorem Tx.n_BadStrip_what : NoAttr K (He.ga K "BadStrip") "what" := He.noat_ok (T.c.fact 96 (f := .noat "BadStrip" "what") rfl)
theorem Tx.kp_BadFace : PySem.W.keepIn K (.ref (He.ga K "BadFace")) = true := He.keep_ok (T.c.fact 97 (f := .keep "BadFace") rfl)
theorem Tx.kp_BadDirection : PySem.W.keepIn K (.ref (He.ga K "BadDirection")) = true := He.keep_ok (T.c.fact 98 (f := .keep "BadDirection") rfl)
theorem Tx.kp_BadStrip : PySem.W.keepIn K (.ref (He.ga K "BadStrip")) = true := He.keep_ok (T.c.fact 99 (f := .keep "BadStrip") rfl)
theorem Tx.x_BadFace_BadFace : PySem.W.exmOne K (.ref (He.ga K "BadFace")) (.ref (He.ga K "BadFace")) = some true := He.exm_ok (T.c.fact 100 (f := .exm "BadFace" "BadFace" true) rfl)
theorem Tx.x_BadFace_BadDirection : PySem.W.exmOne K (.ref (He.ga K "BadFace")) (.ref (He.ga K "BadDirection")) = some false := He.exm_ok (T.c.fact 101 (f := .exm "BadFace" "BadDirection" false) rfl)
theorem Tx.x_BadFace_BadStrip : PySem.W.exmOne K (.ref (He.ga K "BadFace")) (.ref (He.ga K "BadStrip")) = some false := He.exm_ok (T.c.fact 102 (f := .exm "BadFace" "BadStrip" false) rfl)
theorem Tx.x_BadDirection_BadFace : PySem.W.exmOne K (.ref (He.ga K "BadDirection")) (.ref (He.ga K "BadFace")) = some false := He.exm_ok (T.c.fact 103 (f := .exm "BadDirection" "BadFace" false) rfl)
theorem Tx.x_BadDirection_BadDirection : PySem.W.exmOne K (.ref (He.ga K "BadDirection")) (.ref (He.ga K "BadDirection")) = some true := He.exm_ok (T.c.fact 104 (f := .exm "BadDirection" "BadDirection" true) rfl)
theorem Tx.x_BadDirection_BadStrip : PySem.W.exmOne K (.ref (He.ga K "BadDirection")) (.ref (He.ga K "BadStrip")) = some false := He.exm_ok (T.c.fact 105 (f := .exm "BadDirection" "BadStrip" false) rfl)
theorem Tx.x_BadStrip_BadFace : PySem.W.exmOne K (.ref (He.ga K "BadStrip")) (.ref (He.ga K "BadFace")) = some false := He.exm_ok (T.c.fact 106 (f := .exm "BadStrip" "BadFace" false) rfl)
theorem Tx.x_BadStrip_BadDirection : PySem.W.exmOne K (.ref (He.ga K "BadStrip")) (.ref (He.ga K "BadDirection")) = some false := He.exm_ok (T.c.fact 107 (f := .exm "BadStrip" "BadDirection" false) rfl)
theorem Tx.x_BadStrip_BadStrip : PySem.W.exmOne K (.ref (He.ga K "BadStrip")) (.ref (He.ga K "BadStrip")) = some true := He.exm_ok (T.c.fact 108 (f := .exm "BadStrip" "BadStrip" true) rfl)
end
end K27
set_option maxHeartbeats 4000000
/-! What raises. -/
namespace K27
open PySem PySem.Spec PyProof.Rows L2

theorem clsB_ok {K : PySem.W.Frag} {C : Addr} {p : List Value → Bool} {q : Addr → Bool} {id : String} (h : clsB K C p q id = true) :
    ∃ nm qn N bs bm sn sub ab col dd k0 k1 k2 k3 k5, K.lookup C = some (excClassObj nm qn C N bs bm true sn sub ab col dd k0 k1 k2 k3 k5 id) ∧ p bm = true ∧ q N = true := by
  unfold clsB at h
  split at h
  · rename_i c dd cd sl e
    split at h
    · rename_i C' bm k0 k1 k2 k3 n k5 e1 e2
      obtain ⟨h1, h⟩ := He.ba h
      obtain ⟨h2, h⟩ := He.ba h
      obtain ⟨h3, h⟩ := He.ba h
      obtain ⟨h4, h⟩ := He.ba h
      obtain ⟨h5, h⟩ := He.ba h
      obtain ⟨h6, h7⟩ := He.ba h
      obtain ⟨nm, bs, mro, ns, qn, hd, sn, sb, ab, col, del⟩ := cd
      dsimp only at e1 h4 h5 h7
      have e3 := of_decide_eq_true h1
      have e4 := of_decide_eq_true h2
      have e5 := of_decide_eq_true h3
      subst e3 e4 e5 e1
      have e6 : sl = #[k0, k1, k2, k3, some (Value.builtin n), k5] := by
        rw [← Array.toList_inj, e2]
      have e7 : del = false := by
        cases del with
        | true => cases h4
        | false => rfl
      subst e6 e7 h5
      exact ⟨nm, qn, ns, bs, bm, sn, sb, ab, col, dd, k0, k1, k2, k3, k5, e, h6, h7⟩
    · cases h
  · cases h
theorem oexB_ok {K : PySem.W.Frag} {x : Str} (h : oexB K x = true) (kp : PySem.W.keepIn K (.ref (He.ga K x)) = true) : OexC K (He.ga K x) ∧ XfC K (He.ga K x) := by
  obtain ⟨h1, h⟩ := He.ba h
  obtain ⟨h2, h⟩ := He.ba h
  obtain ⟨h3, h⟩ := He.ba h
  obtain ⟨h4, h5⟩ := He.ba h
  obtain ⟨nm, qn, N, bs, bm, sn, sub, ab, col, dd, k0, k1, k2, k3, k5, e1, e2, _⟩ := clsB_ok h1
  exact ⟨⟨⟨nm, qn, N, bs, bm, sn, sub, ab, col, dd, k0, k1, k2, k3, k5, e1, e2⟩, He.eqO_ok h2, of_decide_eq_true h3, of_decide_eq_true h4, kp⟩, xfB_ok h5⟩
theorem Tx.o_BadFace {K : PySem.W.Frag} {mg : Str → Option Value} (T : Tx K mg) : OexC K (He.ga K "BadFace") ∧ XfC K (He.ga K "BadFace") := oexB_ok (He.ba (He.ba (He.ba T.ex).2).2).1 T.kp_BadFace
theorem Tx.o_BadDirection {K : PySem.W.Frag} {mg : Str → Option Value} (T : Tx K mg) : OexC K (He.ga K "BadDirection") ∧ XfC K (He.ga K "BadDirection") := oexB_ok (He.ba (He.ba (He.ba (He.ba T.ex).2).2).2).1 T.kp_BadDirection
theorem Tx.o_BadStrip {K : PySem.W.Frag} {mg : Str → Option Value} (T : Tx K mg) : OexC K (He.ga K "BadStrip") ∧ XfC K (He.ga K "BadStrip") := oexB_ok (He.ba (He.ba (He.ba (He.ba (He.ba T.ex).2).2).2).2).1 T.kp_BadStrip
/-- a promise with exceptions -/
def spO (P : Program) (w : World) (K : PySem.W.Frag) {ι : Type} (A : ι → List VD) (C : ι → Prop) (Out : ι → O) : Sp := fun vs H Q E => ∃ (i : ι) (B : Hp), C i ∧ Same B H ∧ VsOk ⟨P, w, K, none⟩ B vs (A i) ∧ (∀ r, Out i = .rt r → ∀ v B' H', Gr none B H B' H' → VOk ⟨P, w, K, none⟩ B' v r → Q v H') ∧
  ∀ Cc f x, Out i = .ex Cc f x → ∀ v d B' H', Gr none B H B' H' → H' d = some (.xd [(f, v)]) → Dp K B' v x → E (.ref Cc) (some d) H'
structure CalX (P : Program) (w : World) (K : PySem.W.Frag) (mg : Str → Option Value) (base : Heap) (k : Nat) (x : Str) (sp : Sp) : Prop where
  ex : ∃ f fd ps, FnOk P w K mg base (L2.CX P w) k f fd ps sp ∧ mg x = some (.ref f) ∧ PySem.W.keepIn K (.ref f) = true ∧ Binds K fd ps []
/-- a reading that always raises -/
def tX (Z : Zt) (E : XK) (Γ : Gm) (C : Addr) (f : Str) (x : PyData) : TE := fun σ H Q => ∃ B0 H0 B, Ok Z B0 H0 B H σ Γ ∧ ∀ v d B1 H1, Gr Z.M B H B1 H1 → HandM Z B1 H1 → H1 d = some (.xd [(f, v)]) → Dp Z.K B1 v x → E (.ref C) (some d) H1
def tXA (Z : Zt) (E : XK) (Γ : Gm) (C : Addr) (f : Str) (x : PyData) : TA := fun σ H Q => ∃ B0 H0 B, Ok Z B0 H0 B H σ Γ ∧ ∀ v d B1 H1, Gr Z.M B H B1 H1 → HandM Z B1 H1 → H1 d = some (.xd [(f, v)]) → Dp Z.K B1 v x → E (.ref C) (some d) H1
def PFO (o : O) : O → Prop
  | .rt r => o = .rt r
  | .nx _ => o = .rt (.d .none)
  | .ex C f x => o = .ex C f x
  | _ => False
theorem fun_ex {P : Program} {w : World} {K : PySem.W.Frag} {mg : Str → Option Value} {base : Heap} {ι : Type} {A : ι → List VD} {C : ι → Prop} {Out : ι → O} {y qual : Str} {params : Arguments} {bd : List Stmt} {scope : Scope} {dvs : List V} {kws : List (Str × V)} {f : Addr} {fd : FuncData} {N ps : List Str} {k : Nat}
    (F : FunD K y qual params bd scope dvs kws f fd) (S : FnScope N ps scope) (hl : ∀ i, (A i).length = ps.length)
    (hb : ∀ (i : ι) (cdv : Value) (Ar : Around) (outer : List Env) (s : Shared) (H : Hp) (E : XK), C i → Room k (Ar.deeper (envOfC qual scope s.heap.objs.size f cdv)) →
      PSs (cxOf (L2.CX P w) P w K mg base N qual scope f cdv Ar outer s H E) bd (tO (zx (cxOf (L2.CX P w) P w K mg base N qual scope f cdv Ar outer s H E) none) E (gstart N (A i)) (PFO (Out i)))) : FnOk P w K mg base (L2.CX P w) (k + 1) f fd ps (spO P w K A C Out) := by
  refine F.ok S (fun vs H Q E h => ?_) (fun cdv Ar outer s H vs Q E hr h => ?_)
  · obtain ⟨i, B, hC, hs, hv, _⟩ := h
    rw [vsok_len hv, hl]
  · obtain ⟨i, B, hC, hs, hv, q, qx⟩ := h
    refine ⟨_, hb i cdv Ar outer s H E hC hr, B, H, B, ok_start hs hv (fun h z => by cases z), ⟨fun G s b h hp o sm => ?_, fun r v b h hp g hM hv => ?_, fun G s b h hp o sm => hp.elim, fun G s b h hp o sm => hp.elim, fun C f x v d b h hp g hM hd hx => ?_⟩⟩
    · have hp : Out i = .rt (.d .none) := hp
      exact q _ hp .non b h o.gr Dp.non
    · have hp : Out i = .rt r := hp
      exact q _ hp v b h g hv
    · have hp : Out i = .ex C f x := hp
      exact qx _ _ _ hp v d b h g hd hx
section
variable {X : Cx} {M : Option Addr} {E : XK} {Γ : Gm} {P : O → Prop} {a b e : Expr} {es : List Expr} {pos p p2 : Pos} {x : Str} {C : Addr} {f : Str} {y : PyData}
theorem passF : Passes (L2.CX X.prog X.w) X (fun _ _ _ => False) := fun _ _ _ _ _ _ _ ⟨_, _, _, _, _, _, _, _, _, _, _, _, h⟩ => h.elim
/-- a call that comes back -/
theorem x_callO {ι : Type} {A : ι → List VD} {C : ι → Prop} {Out : ι → O} {k j : Nat} (cl : CalX X.prog X.w X.K X.mg X.base k x (spO X.prog X.w X.K A C Out)) (hr : Room j X.A) (i : ι) {r : VD} (ha : PA X (e :: es) (tDA (zx X M) Γ (fun l => l = A i))) (hC : C i) (ho : Out i = .rt r) (hk : k ≤ j := by decide) (hg : Gl X x := by rfl)
    (hdb : (x == ("__debug__" : Str)) = false := by decide) (he : starEach (e :: es) X.env = (false, eval e X.env) :: starEach es X.env := by rfl) (hpl : (backTo pos (starEach es X.env)).any (·.1) = false := by rfl) : PE X (.Call (.Name x p) (e :: es) [] pos) (tD (zx X M) Γ (fun y => y = r)) := by
  obtain ⟨f, fd, ps, F, hm, hkp, hb⟩ := cl.ex
  refine pe_imp (pe_call F (hr.mono hk) hg hm hkp hb .nil passF ha hdb he hpl) fun σ H Q ⟨B0, H0, B, o, q⟩ => ⟨B0, H0, B, o, fun vs rs B1 H1 hrs g1 o1 hvs => ?_⟩
  subst hrs
  rw [List.append_nil]
  refine ⟨i, B1, hC, o1.bh, vsok_m hvs, fun r' e v B' H' g hv => ?_, fun Cc f x e => ?_⟩
  · have e := O.rt.inj (ho.symm.trans e)
    subst e
    exact q v _ B' H' rfl (g1.trans g.lift) (o1.grow g) (vok_m hv)
  · rw [ho] at e
    cases e
/-- a call that raises -/
theorem x_callX {ι : Type} {A : ι → List VD} {C' : ι → Prop} {Out : ι → O} {k j : Nat} (cl : CalX X.prog X.w X.K X.mg X.base k x (spO X.prog X.w X.K A C' Out)) (hr : Room j X.A) (i : ι) (hx : Passes (L2.CX X.prog X.w) X E) (ha : PA X (e :: es) (tDA (zx X M) Γ (fun l => l = A i))) (hC : C' i) (ho : Out i = .ex C f y) (hk : k ≤ j := by decide) (hg : Gl X x := by rfl)
    (hdb : (x == ("__debug__" : Str)) = false := by decide) (he : starEach (e :: es) X.env = (false, eval e X.env) :: starEach es X.env := by rfl) (hpl : (backTo pos (starEach es X.env)).any (·.1) = false := by rfl) : PE X (.Call (.Name x p) (e :: es) [] pos) (tX (zx X M) E Γ C f y) := by
  obtain ⟨fa, fd, ps, F, hm, hkp, hb⟩ := cl.ex
  refine pe_imp (pe_call F (hr.mono hk) hg hm hkp hb .nil hx ha hdb he hpl) fun σ H Q ⟨B0, H0, B, o, q⟩ => ⟨B0, H0, B, o, fun vs rs B1 H1 hrs g1 o1 hvs => ?_⟩
  subst hrs
  rw [List.append_nil]
  refine ⟨i, B1, hC, o1.bh, vsok_m hvs, fun r' e v B' H' g hv => ?_, fun Cc f' x' e v d B' H' g hd hx => ?_⟩
  · rw [ho] at e
    cases e
  · have e := ho.symm.trans e
    cases e
    exact q v d B' H' (g1.trans g.lift) (o1.hand.grow g) hd hx
theorem xa_X (ha : PE X e (tX (zx X M) E Γ C f y)) (hs : starEach [e] X.env = (false, eval e X.env) :: starEach [] X.env := by rfl) : PA X [e] (tXA (zx X M) E Γ C f y) := pa_imp (pa_cons ha pa_nil hs) fun σ H Q h => h
theorem x_callXA {k j : Nat} {sp : Sp} (cl : Cal X.prog X.w X.K X.mg X.base k x sp) (hr : Room j X.A) (ha : PA X (e :: es) (tXA (zx X M) E Γ C f y)) (hk : k ≤ j := by decide) (hg : Gl X x := by rfl)
    (hdb : (x == ("__debug__" : Str)) = false := by decide) (he : starEach (e :: es) X.env = (false, eval e X.env) :: starEach es X.env := by rfl) (hpl : (backTo pos (starEach es X.env)).any (·.1) = false := by rfl) : PE X (.Call (.Name x p) (e :: es) [] pos) (tX (zx X M) E Γ C f y) := by
  obtain ⟨fa, fd, ps, F, hm, hkp, hb⟩ := cl.ex
  exact pe_imp (pe_call F (hr.mono hk) hg hm hkp hb .nil pass0 ha hdb he hpl) fun σ H Q h => h
theorem cnX {Z : Zt} {B0 H0 B H : Hp} {D : Ends} {σ : L2.St} (o : Ok Z B0 H0 B H σ Γ) (k : Cn Z E B0 H0 B D P) (h : P (.ex C f y)) : ∀ v d B1 H1, Gr Z.M B H B1 H1 → HandM Z B1 H1 → H1 d = some (.xd [(f, v)]) → Dp Z.K B1 v y → E (.ref C) (some d) H1 :=
  fun v d B1 H1 g hM hd hv => k.ex C f y v d B1 H1 h (o.gr.trans g) hM hd hv
theorem s_asgX {i : Nat} (hN : X.N.Nodup) (he : PE X e (tX (zx X M) E Γ C f y)) (h : P (.ex C f y)) (hi : X.N[i]? = some x := by rfl) (hx : Loc X.env.scope x := by first | exact Or.inl rfl | exact Or.inr rfl)
    (hs : swapsWith e (some (.Name x p)) pos.line X.env = pure false := by rfl) (hf : X.fn x = true ∨ X.env.scope.names.lookup x = some .local := by first | exact .inl rfl | exact .inr rfl) : PS X (.Assign [.Name x p] e pos) (tO (zx X M) E Γ P) :=
  ps_imp (ps_set hN hi hx he hs hf) fun D σ H ⟨B0, H0, B, o, k⟩ => ⟨B0, H0, B, o, cnX o k h⟩
theorem s_exprX (he : PE X e (tX (zx X M) E Γ C f y)) (h : P (.ex C f y)) (hs : swapsWith e none pos.line X.env = pure false := by rfl) : PS X (.Expr e pos) (tO (zx X M) E Γ P) :=
  ps_imp (ps_expr he hs) fun D σ H ⟨B0, H0, B, o, k⟩ => ⟨B0, H0, B, o, cnX o k h⟩
theorem s_retX (he : PE X e (tX (zx X M) E Γ C f y)) (h : P (.ex C f y)) : PS X (.Return (some e) pos) (tO (zx X M) E Γ P) :=
  ps_imp (ps_ret he) fun D σ H ⟨B0, H0, B, o, k⟩ => ⟨B0, H0, B, o, cnX o k h⟩
/-! ### raise C(e) -/
def spE (C : Addr) (f : Str) : Sp := fun vs H Q _ => ∃ (a : Addr) (y : V), vs = [.ref a, y] ∧ H a = some (exo a C none) ∧ ∀ dx, H dx = none → dx ≠ a → Q .non (upd (upd H dx (exd dx [(f, y)])) a (exo a C (some dx)))
structure Ini (P : Program) (w : World) (K : PySem.W.Frag) (mg : Str → Option Value) (base : Heap) (x : Str) (C : Addr) (f : Str) : Prop where
  ex : ∃ fI fd ps, OexC K C ∧ PySem.W.findIn K (.ref C) "__init__" = some (some (.ref fI)) ∧ PySem.W.typeIn K (.ref fI) = some (.type "function") ∧ FnOk P w K mg base CX0 1 fI fd ps (spE C f) ∧ Binds K fd ps [] ∧ mg x = some (.ref C)
theorem s_raise {j : Nat} (ini : Ini X.prog X.w X.K X.mg X.base x C f) (hr : Room j X.A) (tk : Takes X (fun cls d _ H => E cls d H)) (hc : X.calm = true) (ha : PE X e (tD (zx X M) Γ (fun r => r = .d y))) (h : P (.ex C f y)) (hk : 2 ≤ j := by decide) (hg : Gl X x := by rfl)
    (hdb : (x == ("__debug__" : Str)) = false := by decide) (he : starEach [e] X.env = (false, eval e X.env) :: starEach [] X.env := by rfl) (hpl : (backTo p2 (starEach [] X.env)).any (·.1) = false := by rfl) : PS X (.Raise (some (.Call (.Name x p) [e] [] p2)) none pos) (tO (zx X M) E Γ P) := by
  obtain ⟨fI, fd, ps, T, iC, tI, F, hb, hm⟩ := ini.ex
  refine ps_imp (ps_raise hc tk (pmk_oex T iC tI F (hr.mono hk) hb .nil pass0 hg hm (xp_cons (rs := []) ha xp_nil he) hdb he hpl)) fun D σ H ⟨B0, H0, B, o, k⟩ => ⟨B0, H0, B, o, fun vs rs B1 H1 hrs g1 o1 hvs => ?_⟩
  subst hrs
  obtain ⟨v, rfl, hv⟩ : ∃ v, vs = [v] ∧ Dp (zx X M).K B1 v y := by
    cases hvs with
    | cons d1 d2 =>
      cases d2
      exact ⟨_, rfl, d1⟩
  refine ⟨(by show 1 ≤ 1000; decide), fun a ha => ⟨a, v, rfl, upd_same, fun dx hdx hne => ⟨rfl, dx, [(f, v)], upd_same, ?_, ?_, ?_⟩⟩⟩
  · rw [upd_ne hne, upd_same]
  · rw [upd_ne hne] at hdx
    exact hdx
  · rw [upd_ne hne] at hdx
    have hb1 : B1 a = none := o1.bh.free ha
    have hbd : B1 dx = none := o1.bh.free hdx
    have up : ∀ {b : Addr} {w : HO}, H1 b = some w → upd (del (upd (upd (upd H1 a (exo a C none)) dx (exd dx [(f, v)])) a (exo a C (some dx))) a) dx (.xd [(f, v)]) b = some w := fun {b w} z => by
      rw [upd_ne (ne_of_none z hdx), del_ne (ne_of_none z ha), upd_ne (ne_of_none z ha), upd_ne (ne_of_none z hdx), upd_ne (ne_of_none z ha)]
      exact z
    have g : Gr M B1 H1 B1 (upd (del (upd (upd (upd H1 a (exo a C none)) dx (exd dx [(f, v)])) a (exo a C (some dx))) a) dx (.xd [(f, v)])) := ⟨Same.refl _, fun b w z => up (o1.bh b w z), fun b w _ z => up z, fun b z => .inl z, fun b z => by
      cases q : H1 b with
      | none => exact absurd q z
      | some w =>
        rw [up q]
        simp⟩
    have hd1 : HandM (zx X M) B1 (upd (del (upd (upd (upd H1 a (exo a C none)) dx (exd dx [(f, v)])) a (exo a C (some dx))) a) dx (.xd [(f, v)])) := fun b z => by
      obtain ⟨nb, c, cells, pos, rest, tot, q, q2⟩ := o1.hand b z
      exact ⟨nb, c, cells, pos, rest, tot, up q, q2⟩
    exact cnX o k h v dx B1 _ (g1.trans g) hd1 upd_same hv
end
section
variable {P : Program} {w : World} {K : PySem.W.Frag} {mg : Str → Option Value} {base : Heap} (T : Tx K mg)
include T
theorem i_BadFace : Ini P w K mg base "BadFace" (He.ga K "BadFace") "face" := by
  obtain ⟨fd, F⟩ := T.D_BadFaceInit
  refine ⟨_, fd, _, T.o_BadFace.1, T.m_BadFace_init.at_, eq_of_beq T.m_BadFace_init.fn, F.ok sc_BadFaceInit (fun vs H Q E h => ?_) (fun cdv A outer s H vs Q E hr h => ?_), F.bindsN (ps := ["self", "face"]) fun _ _ _ _ _ _ us hl => match us, hl with | [_, _], _ => rfl, T.g_BadFace⟩
  · obtain ⟨a, y, rfl, _⟩ := h
    rfl
  · obtain ⟨a, y, rfl, h1, k⟩ := h
    refine ⟨_, PSs.nox (pss_one (ps_ost (pv 0) (pv 1))), ?_⟩
    exact ⟨y, rfl, _, rfl, a, _, rfl, T.o_BadFace.1, T.n_BadFace_face, .inl ⟨h1, fun dx n ne => k dx n ne⟩⟩
theorem i_BadDirection : Ini P w K mg base "BadDirection" (He.ga K "BadDirection") "what" := by
  obtain ⟨fd, F⟩ := T.D_BadDirectionInit
  refine ⟨_, fd, _, T.o_BadDirection.1, T.m_BadDirection_init.at_, eq_of_beq T.m_BadDirection_init.fn, F.ok sc_BadDirectionInit (fun vs H Q E h => ?_) (fun cdv A outer s H vs Q E hr h => ?_), F.bindsN (ps := ["self", "what"]) fun _ _ _ _ _ _ us hl => match us, hl with | [_, _], _ => rfl, T.g_BadDirection⟩
  · obtain ⟨a, y, rfl, _⟩ := h
    rfl
  · obtain ⟨a, y, rfl, h1, k⟩ := h
    refine ⟨_, PSs.nox (pss_one (ps_ost (pv 0) (pv 1))), ?_⟩
    exact ⟨y, rfl, _, rfl, a, _, rfl, T.o_BadDirection.1, T.n_BadDirection_what, .inl ⟨h1, fun dx n ne => k dx n ne⟩⟩
theorem i_BadStrip : Ini P w K mg base "BadStrip" (He.ga K "BadStrip") "what" := by
  obtain ⟨fd, F⟩ := T.D_BadStripInit
  refine ⟨_, fd, _, T.o_BadStrip.1, T.m_BadStrip_init.at_, eq_of_beq T.m_BadStrip_init.fn, F.ok sc_BadStripInit (fun vs H Q E h => ?_) (fun cdv A outer s H vs Q E hr h => ?_), F.bindsN (ps := ["self", "what"]) fun _ _ _ _ _ _ us hl => match us, hl with | [_, _], _ => rfl, T.g_BadStrip⟩
  · obtain ⟨a, y, rfl, _⟩ := h
    rfl
  · obtain ⟨a, y, rfl, h1, k⟩ := h
    refine ⟨_, PSs.nox (pss_one (ps_ost (pv 0) (pv 1))), ?_⟩
    exact ⟨y, rfl, _, rfl, a, _, rfl, T.o_BadStrip.1, T.n_BadStrip_what, .inl ⟨h1, fun dx n ne => k dx n ne⟩⟩
end
end K27
set_option maxHeartbeats 4000000
/-! The defs, one by one. -/
namespace K27
open PySem PySem.Spec PyProof.Rows L2
abbrev ti (l : List Int) : PyData := .tuple (l.map PyData.int)
abbrev li (l : List Int) : PyData := .list (l.map PyData.int)
theorem at_map {l : List Int} {i : Int} (h0 : 0 ≤ i) (h : i < l.length) : atI (l.map PyData.int) i = some (.int (gi l i)) := by
  have h' : i.toNat < l.length := by omega
  have e : i = ((i.toNat : Nat) : Int) := by omega
  have q : (l.map PyData.int)[i.toNat]? = some (.int (gi l i)) := by
    rw [List.getElem?_map, List.getElem?_eq_getElem h']
    unfold gi
    rw [List.getD_eq_getElem?_getD, List.getElem?_eq_getElem h']
    rfl
  have z := atI_nat q
  rw [← e] at z
  exact z
theorem ix_ti {l : List Int} {i : Int} (h0 : 0 ≤ i) (h : i < l.length) : ixD (ti l) i = some (.int (gi l i)) := at_map h0 h
theorem ix_li {l : List Int} {i : Int} (h0 : 0 ≤ i) (h : i < l.length) : ixD (li l) i = some (.int (gi l i)) := at_map h0 h
theorem ix_frames {f : Int} (h0 : 0 ≤ f) (h : f < 6) : ixD framesD f = some (.tuple [.int (a1 f), .int (a2 f)]) := by
  rcases six h0 h with rfl | rfl | rfl | rfl | rfl | rfl <;> rfl
theorem ixN_of {n : Nat} {i : Int} (h0 : 0 ≤ i) (h : i < n) : ixN n i = some i.toNat := by
  unfold ixN
  rw [if_pos h0, if_pos h]
local macro_rules | `(tactic| walk_at "c") => `(tactic| first | trivial | assumption | (dsimp only; (repeat' apply And.intro) <;> first | assumption | trivial | omega) | ((repeat' apply And.intro) <;> first | assumption | trivial | omega))
local macro_rules | `(tactic| walk_at "ix") => `(tactic| (try dsimp only); first | exact ix_ti (by omega) (by omega) | exact ix_li (by omega) (by omega) | exact ix_frames (by omega) (by omega) | rfl)
local macro_rules | `(tactic| walk_at "sx") => `(tactic| (try dsimp only); exact ixN_of (by omega) (by first | omega | (simp only [List.length_set, List.length_map, List.length_cons, List.length_nil]; omega)))
local macro_rules | `(tactic| walk_at "div") => `(tactic| (try dsimp only); first | exact ⟨by omega, by omega⟩ | omega)
local macro_rules | `(tactic| walk_at "mul") => `(tactic| (try dsimp only); first | exact .inl ⟨by omega, by omega⟩ | exact .inr ⟨by omega, by omega⟩)
section
variable {P : Program} {w : World} {K : PySem.W.Frag} {mg : Str → Option Value} {base : Heap} (T : Tx K mg)
include T
/-! ### is_whole -/
theorem c_is_whole : Cal P w K mg base 1 "is_whole" (spP P w K (ι := Int × Int × Int) (fun i => [.d (.int i.1), .d (.int i.2.1), .d (.int i.2.2)]) (fun _ => True) (fun i => .d (.bool (decide (i.2.1 ≤ i.1) && decide (i.1 ≤ i.2.2))))) := by
  obtain ⟨fd, F⟩ := T.D_is_whole
  obtain ⟨ds, hv, hb⟩ := F.binds1 (ps := ["thing", "low", "high"]) 3 2 (List.cons_ne_nil _ _) rfl fun T kV doc pm an cdv ct us its h1 h2 => match us, its, h1, h2 with | [_, _, _], [_, _], _, _ => ⟨_, rfl, rfl⟩
  have e : ds = [] := by
    cases hv
    rfl
  subst e
  refine ⟨_, fd, _, fun_pure F sc_is_whole (fun _ => rfl) (fun i cdv Ar outer s H E hC hr => ?_), T.g_is_whole, F.kp, hb⟩
  have k1 : kitB "int" "bool" = some false := by decide +kernel
  have k2 : kitB "int" "int" = some true := by decide +kernel
  exact s_cons (s_if (w_or (t_v (x_isi T.f_isinstance (x_var 0) (c_ty T.f_bool PyProof.Rows.boot_bool) (by exact k1) PyProof.Rows.boot_isinstance)) (fun _ => w_or1 (t_not (t_v (x_isi T.f_isinstance (x_var 0) (c_ty T.f_int PyProof.Rows.boot_int) (by exact k2) PyProof.Rows.boot_isinstance))))).pt
    (fun h => by cases h) (fun _ => s_nil (s_one (s_ret (x_and (x_or (x_isN (x_var 1)) (fun _ => x_one (x_ge (x_var 0) (x_var 1)))) (fun _ => x_one (x_or (x_isN (x_var 2)) (fun _ => x_one (x_le (x_var 0) (x_var 2)))))) (by rfl)))))
/-! ### faces -/
theorem c_check_face : Cal P w K mg base 2 "check_face" (spP P w K (ι := Int) (fun f => [.d (.int f)]) (fun f => 0 ≤ f ∧ f < 6) (fun f => .d (.int f))) := by
  obtain ⟨fd, F⟩ := T.D_check_face
  refine ⟨_, fd, _, fun_pure F sc_check_face (fun _ => rfl) (fun f cdv Ar outer s H E hC hr => ?_), T.g_check_face, F.kp, F.bindsN (ps := ["face"]) fun _ _ _ _ _ _ us hl => match us, hl with | [_], _ => rfl⟩
  exact (s_cons (s_if (t_not (t_v (x_call (c_is_whole T) hr (_, _, _) (xa_cons (x_var 0) (xa_cons x_int (xa_cons x_int xa_nil))) (by walk_at "c"))))
      (fun h => by
        exfalso
        have h : true = !(decide (0 ≤ f) && decide (f ≤ 5)) := h
        rw [decide_eq_true hC.1, decide_eq_true (show f ≤ 5 by omega)] at h
        cases h)
      (fun h => (s_nil (s_one (s_ret (x_var 0) (by rfl)))))))
theorem c_check_corner : Cal P w K mg base 2 "check_corner" (spP P w K (ι := Int) (fun f => [.d (.int f)]) (fun f => 0 ≤ f ∧ f < 8) (fun f => .d (.int f))) := by
  obtain ⟨fd, F⟩ := T.D_check_corner
  refine ⟨_, fd, _, fun_pure F sc_check_corner (fun _ => rfl) (fun f cdv Ar outer s H E hC hr => ?_), T.g_check_corner, F.kp, F.bindsN (ps := ["corner"]) fun _ _ _ _ _ _ us hl => match us, hl with | [_], _ => rfl⟩
  exact (s_cons (s_if (t_not (t_v (x_call (c_is_whole T) hr (_, _, _) (xa_cons (x_var 0) (xa_cons x_int (xa_cons x_int xa_nil))) (by walk_at "c"))))
      (fun h => by
        exfalso
        have h : true = !(decide (0 ≤ f) && decide (f ≤ 7)) := h
        rw [decide_eq_true hC.1, decide_eq_true (show f ≤ 7 by omega)] at h
        cases h)
      (fun h => (s_nil (s_one (s_ret (x_var 0) (by rfl)))))))
omit T in
theorem dpB_ok (H : Hp) : ∀ {d : PyData} {u : Value}, dpB K u d = true → ∃ v, RelV v u ∧ Dp K H v d
  | .int j, u, h => by
    cases u with
    | int i t =>
      have e : i = j := of_decide_eq_true h
      exact ⟨.int i, ⟨t, rfl⟩, by rw [e]; exact Dp.int j⟩
    | _ => cases h
  | .tuple ds, u, h => by
    cases u with
    | ref a =>
      have h1 : (match K.lookup a with
        | some ⟨.type c, _, .seq its _, _⟩ => decide (c = "tuple") && (decide (its.size ≤ sizeLine) && dpsB K its.toList ds)
        | _ => false) = true := h
      cases q : K.lookup a with
      | none =>
        rw [q] at h1
        cases h1
      | some o =>
        obtain ⟨oc, od, dt, osl⟩ := o
        rw [q] at h1
        cases oc with
        | type c =>
          cases dt with
          | seq its n =>
            obtain ⟨e1, e2⟩ := He.ba (show (decide (c = "tuple") && (decide (its.size ≤ sizeLine) && dpsB K its.toList ds)) = true from h1)
            obtain ⟨e3, e4⟩ := He.ba e2
            obtain ⟨vs, r, hd⟩ := dpsB_ok H e4
            exact ⟨.ref a, rfl, Dp.tup (.inr ⟨_, its, n, q, congrArg Value.type (of_decide_eq_true e1), rfl, of_decide_eq_true e3, r⟩) hd⟩
          | _ => cases h1
        | _ => cases dt <;> cases h1
    | _ => cases h
  | .none, u, h => by cases u <;> cases h
  | .bool _, u, h => by cases u <;> cases h
  | .str _, u, h => by cases u <;> cases h
  | .list _, u, h => by cases u <;> cases h
  | .dict _, u, h => by cases u <;> cases h
where dpsB_ok (H : Hp) : ∀ {ds : List PyData} {us : List Value}, dpsB K us ds = true → ∃ vs, Vals vs us ∧ DpAll K H vs ds
  | [], [], _ => ⟨[], .nil, .nil⟩
  | [], _ :: _, h => by cases h
  | _ :: _, [], h => by cases h
  | d :: ds, u :: us, h => by
    obtain ⟨h1, h2⟩ := He.ba (show (dpB K u d && dpsB K us ds) = true from h)
    obtain ⟨v, r1, d1⟩ := dpB_ok H h1
    obtain ⟨vs, r2, d2⟩ := dpsB_ok H h2
    exact ⟨v :: vs, .cons r1 r2, .cons d1 d2⟩
theorem frames_ok (H : Hp) : Dp K H (.ref (He.ga K "FRAMES")) framesD := by
  have h := (He.ba (He.ba T.ex).2).1
  obtain ⟨v, r, d⟩ := dpB_ok H h
  have e : v = .ref (He.ga K "FRAMES") := RelV.inj r rfl
  rw [← e]
  exact d
theorem c_face_axes : Cal P w K mg base 3 "face_axes" (spP P w K (ι := Int) (fun f => [.d (.int f)]) (fun f => 0 ≤ f ∧ f < 6) (fun f => .d (.tuple [.int (a1 f), .int (a2 f)]))) := by
  obtain ⟨fd, F⟩ := T.D_face_axes
  refine ⟨_, fd, _, fun_pure F sc_face_axes (fun _ => rfl) (fun f cdv Ar outer s H E hC hr => ?_), T.g_face_axes, F.kp, F.bindsN (ps := ["face"]) fun _ _ _ _ _ _ us hl => match us, hl with | [_], _ => rfl⟩
  obtain ⟨h0, h6⟩ := hC
  exact (s_one (s_ret (x_ix (x_glob (r := .d framesD) T.g_FRAMES (v := .ref (He.ga K "FRAMES")) rfl (fun B => frames_ok T B)) (x_call (c_check_face T) hr _ (xa_cons (x_var 0) xa_nil) (by walk_at "c")) (by walk_at "ix")) (by rfl)))
theorem c_framed : Cal P w K mg base 4 "framed" (spP P w K (ι := Int × Bool × List Int) (fun i => [.d (.int i.1), .d (seqD i.2.1 (i.2.2.map PyData.int))]) (fun i => 0 ≤ i.1 ∧ i.1 < 6 ∧ i.2.2.length = 3) (fun i => .d (.tuple [.int (gi i.2.2 (a1 i.1)), .int (gi i.2.2 (a2 i.1))]))) := by
  obtain ⟨fd, F⟩ := T.D_framed
  refine ⟨_, fd, _, fun_pure F sc_framed (fun _ => rfl) (fun ⟨f, b, d⟩ cdv Ar outer s H E hC hr => ?_), T.g_framed, F.kp, F.bindsN (ps := ["face", "triple"]) fun _ _ _ _ _ _ us hl => match us, hl with | [_, _], _ => rfl⟩
  obtain ⟨h0, h6, hd⟩ := hC
  dsimp only at h0 h6 hd
  have b1 := a1_b h0 h6
  have b2 := a2_b h0 h6
  have q : ∀ i : Int, 0 ≤ i → i < 3 → ixD (seqD b (d.map PyData.int)) i = some (.int (gi d i)) := fun i i0 i3 => by
    cases b with
    | true => exact ix_li i0 (by omega)
    | false => exact ix_ti i0 (by omega)
  exact (s_cons (s_asg 2 sc_framed.nd (x_call (c_face_axes T) hr _ (xa_cons (x_var 0) xa_nil) (by walk_at "c"))
    (s_one (s_ret (x_tup (xp_cons (x_ix (x_var 1) (x_ix (x_var 2) x_int (by walk_at "ix")) (by exact q _ b1.1 b1.2)) (xp_cons (x_ix (x_var 1) (x_ix (x_var 2) x_int (by walk_at "ix")) (by exact q _ b2.1 b2.2)) xp_nil))) (by rfl)))))
theorem c_measure_at : Cal P w K mg base 4 "measure_at" (spP P w K (ι := Int × List Int × List Int) (fun i => [.d (.int i.1), .d (ti i.2.1), .d (li i.2.2)]) (fun i => 0 ≤ i.1 ∧ i.1 < 6 ∧ i.2.1.length = 3 ∧ i.2.2.length = 3 ∧ Bd 10000 i.2.1) (fun i => .d (.int (meas i.1 i.2.1 i.2.2)))) := by
  obtain ⟨fd, F⟩ := T.D_measure_at
  refine ⟨_, fd, _, fun_pure F sc_measure_at (fun _ => rfl) (fun ⟨f, d, p⟩ cdv Ar outer s H E hC hr => ?_), T.g_measure_at, F.kp, F.bindsN (ps := ["face", "direction", "spot"]) fun _ _ _ _ _ _ us hl => match us, hl with | [_, _, _], _ => rfl⟩
  obtain ⟨h0, h6, hd, hp, hB⟩ := hC
  dsimp only at h0 h6 hd hp hB
  have b1 := a1_b h0 h6
  have b2 := a2_b h0 h6
  have q1 := hB.at b1.1 (by omega)
  have q2 := hB.at b2.1 (by omega)
  exact (s_cons (s_unpack [3, 4] rfl (x_call (c_face_axes T) hr _ (xa_cons (x_var 0) xa_nil) (by walk_at "c")) (show PGs _ _ (gNs [3, 4]) from (pgs_cons (pg_name (i := 3) sc_measure_at.nd rfl (Or.inl rfl)) (pgs_cons (pg_name (i := 4) sc_measure_at.nd rfl (Or.inl rfl)) pgs_nil)))
    (s_one (s_ret (x_sub (x_mul (x_ix (x_var 1) (x_var 3) (by walk_at "ix")) (x_ix (x_var 2) (x_var 4) (by walk_at "ix")) (by walk_at "mul")) (x_mul (x_ix (x_var 1) (x_var 4) (by walk_at "ix")) (x_ix (x_var 2) (x_var 3) (by walk_at "ix")) (by walk_at "mul"))) (by rfl)))))
end
end K27
set_option maxHeartbeats 4000000
/-! The defs, one by one: strips. -/
namespace K27
open PySem PySem.Spec PyProof.Rows L2
local macro_rules | `(tactic| walk_at "c") => `(tactic| first | trivial | assumption | (dsimp only; (repeat' apply And.intro) <;> first | assumption | trivial | omega) | ((repeat' apply And.intro) <;> first | assumption | trivial | omega))
local macro_rules | `(tactic| walk_at "ix") => `(tactic| (try dsimp only); first | exact ix_ti (by omega) (by omega) | exact ix_li (by omega) (by omega) | exact ix_frames (by omega) (by omega) | rfl)
local macro_rules | `(tactic| walk_at "sx") => `(tactic| (try dsimp only); exact ixN_of (by omega) (by first | omega | (simp only [List.length_set, List.length_map, List.length_cons, List.length_nil]; omega)))
local macro_rules | `(tactic| walk_at "div") => `(tactic| (try dsimp only); first | exact ⟨by omega, by omega⟩ | omega)
local macro_rules | `(tactic| walk_at "mul") => `(tactic| (try dsimp only); first | exact .inl ⟨by omega, by omega⟩ | exact .inr ⟨by omega, by omega⟩)
abbrev bxV (K : PySem.W.Frag) (s : List Int) : VD := .ob (He.ga K "Box") [("sides", ti s)]
abbrev stV (K : PySem.W.Frag) (f d lo hi : PyData) : VD := .ob (He.ga K "Strip") [("face", f), ("direction", d), ("low", lo), ("high", hi)]
abbrev spV (K : PySem.W.Frag) (c : PyData) : VD := .ob (He.ga K "Split") [("corner", c)]
theorem putF_new {f : Str} {v : V} : ∀ {fs : List (Str × V)}, f ∉ fs.map (·.1) → putF f v fs = fs ++ [(f, v)]
  | [], _ => rfl
  | (g, u) :: r, h => by
    have h1 : ¬ f = g := fun z => h (by rw [z]; exact List.mem_cons_self)
    have h2 : f ∉ r.map (·.1) := fun z => h (List.mem_cons_of_mem _ z)
    show (if g = f then _ else _) = _
    rw [if_neg (fun z => h1 z.symm), putF_new h2]
    rfl
theorem len4 {us : List V} (h : us.length = 4) : ∃ a b c d, us = [a, b, c, d] := by
  match us, h with
  | [a, b, c, d], _ => exact ⟨a, b, c, d, rfl⟩
theorem len1 {us : List V} (h : us.length = 1) : ∃ a, us = [a] := by
  match us, h with
  | [a], _ => exact ⟨a, rfl⟩
section
variable {P : Program} {w : World} {K : PySem.W.Frag} {mg : Str → Option Value} {base : Heap} (T : Tx K mg)
include T
theorem k_Strip : Mks P w K mg base 1 "Strip" (He.ga K "Strip") ["face", "direction", "low", "high"] := by
  obtain ⟨fd, F⟩ := T.D_StripInit
  refine ⟨_, fd, _, T.k_Strip, F.ok sc_StripInit (fun vs H Q E h => ?_) (fun cdv A outer s H vs Q E hr h => ?_), T.g_Strip, F.bindsN (ps := ["self", "face", "direction", "low", "high"]) fun _ _ _ _ _ _ us hl => match us, hl with | [_, _, _, _, _], _ => rfl⟩
  · obtain ⟨q, dx, us, rfl, h1, _⟩ := h
    show us.length + 1 = 5
    rw [h1]
    rfl
  · obtain ⟨q, dx, us, rfl, h1, h2, k⟩ := h
    obtain ⟨a, b, c, d, rfl⟩ := len4 h1
    refine ⟨_, PSs.nox (pss_cons (ps_fld (pv 0) (pv 1) rfl) (pss_cons (ps_fld (pv 0) (pv 2) rfl) (pss_cons (ps_fld (pv 0) (pv 3) rfl) (pss_one (ps_fld (pv 0) (pv 4) rfl))))), ?_⟩
    refine ⟨a, rfl, _, rfl, q, _, dx, [], rfl, h2, T.c_Strip, T.n_Strip_face, (by show 0 < 1000; decide), ?_⟩
    refine ⟨b, rfl, _, rfl, q, _, dx, _, rfl, upd_same, T.c_Strip, T.n_Strip_direction, (by show 1 < 1000; decide), ?_⟩
    refine ⟨c, rfl, _, rfl, q, _, dx, _, rfl, upd_same, T.c_Strip, T.n_Strip_low, ?_, ?_⟩
    · exact Nat.lt_of_le_of_lt (length_putF _ _ _) (by show 1 + 1 < 1000; decide)
    refine ⟨d, rfl, _, rfl, q, _, dx, _, rfl, upd_same, T.c_Strip, T.n_Strip_high, ?_, ?_⟩
    · exact Nat.lt_of_le_of_lt (length_putF _ _ _) (Nat.lt_of_le_of_lt (Nat.succ_le_succ (length_putF _ _ _)) (by show 1 + 1 + 1 < 1000; decide))
    have e : putF "high" d (putF "low" c (putF "direction" b (putF "face" a []))) = List.zip (["face", "direction", "low", "high"] : List Str) [a, b, c, d] := by
      have e1 : putF "direction" b (putF "face" a []) = ([("face", a), ("direction", b)] : List (Str × V)) := putF_new (fs := ([("face", a)] : List (Str × V))) (by show ("direction" : Str) ∉ (["face"] : List Str); decide +kernel)
      rw [e1]
      have e2 : putF "low" c ([("face", a), ("direction", b)] : List (Str × V)) = ([("face", a), ("direction", b), ("low", c)] : List (Str × V)) := putF_new (fs := ([("face", a), ("direction", b)] : List (Str × V))) (by show ("low" : Str) ∉ (["face", "direction"] : List Str); decide +kernel)
      rw [e2]
      exact putF_new (fs := ([("face", a), ("direction", b), ("low", c)] : List (Str × V))) (by show ("high" : Str) ∉ (["face", "direction", "low"] : List Str); decide +kernel)
    show Q .non _
    rw [upd_upd, upd_upd, upd_upd, e]
    exact k
theorem k_Split : Mks P w K mg base 1 "Split" (He.ga K "Split") ["corner"] := by
  obtain ⟨fd, F⟩ := T.D_SplitInit
  refine ⟨_, fd, _, T.k_Split, F.ok sc_SplitInit (fun vs H Q E h => ?_) (fun cdv A outer s H vs Q E hr h => ?_), T.g_Split, F.bindsN (ps := ["self", "corner"]) fun _ _ _ _ _ _ us hl => match us, hl with | [_, _], _ => rfl⟩
  · obtain ⟨q, dx, us, rfl, h1, _⟩ := h
    show us.length + 1 = 2
    rw [h1]
    rfl
  · obtain ⟨q, dx, us, rfl, h1, h2, k⟩ := h
    obtain ⟨a, rfl⟩ := len1 h1
    refine ⟨_, PSs.nox (pss_one (ps_fld (pv 0) (pv 1) rfl)), ?_⟩
    refine ⟨a, rfl, _, rfl, q, _, dx, [], rfl, h2, T.c_Split, T.n_Split_corner, (by show 0 < 1000; decide), ?_⟩
    exact k
theorem c_faces_beside : Cal P w K mg base 3 "faces_beside" (spP P w K (ι := Int) (fun f => [.d (.int f)]) (fun f => 0 ≤ f ∧ f < 6) (fun f => .d (ti (besidesL f)))) := by
  obtain ⟨fd, F⟩ := T.D_faces_beside
  refine ⟨_, fd, _, fun_pure F sc_faces_beside (fun _ => rfl) (fun f cdv Ar outer s H E hC hr => ?_), T.g_faces_beside, F.kp, F.bindsN (ps := ["face"]) fun _ _ _ _ _ _ us hl => match us, hl with | [_], _ => rfl⟩
  have e : ((List.range (Int.toNat 6)).filter fun i => !decide (((0 : Int) + (i : Nat)) / 2 = f / 2)).map (fun i : Nat => PyData.int (0 + (i : Int))) = (besidesL f).map PyData.int := by
    unfold besidesL
    rw [List.map_map]
    rfl
  exact (s_cons (s_expr (x_call (c_check_face T) hr _ (xa_cons (x_var 0) xa_nil) (by walk_at "c"))
    (s_one (s_ret (x_tupL T.f_tuple PyProof.Rows.boot_tuple (x_n (n_lcF 1 (fun i => !decide (((0 : Int) + (i : Nat)) / 2 = f / 2)) (fun i : Nat => .int (0 + (i : Int))) rfl sc_faces_beside.nd (wlk_rng1 (by omega)) (p_rng1 T.f_range x_int) (blkOk_by (N := N_faces_beside) (sc := defScope st_faces_beside) (own := [("other", 1)]) (by decide +kernel)) (fun _ _ _ _ _ => pg_name (i := 1) sc_faces_beside.nd rfl (Or.inl rfl)) (fun i hi _ _ _ _ _ => (t_neI (x_fdiv (x_var 1) x_int (by walk_at "div")) (x_fdiv (x_var 0) x_int (by walk_at "div")))) (fun i hi hf _ _ _ _ _ => (x_var 1)) (by decide)))) (by exact congrArg (fun l => VD.d (.tuple l)) e)))))
theorem c_outward_step : Cal P w K mg base 1 "outward_step" (spP P w K (ι := Int × Bool × List Int) (fun i => [.d (.int i.1), .d (seqD i.2.1 (i.2.2.map PyData.int))]) (fun i => 0 ≤ i.1 ∧ i.1 < 6 ∧ i.2.2.length = 3) (fun i => .d (.int (outw i.1 i.2.2)))) := by
  obtain ⟨fd, F⟩ := T.D_outward_step
  refine ⟨_, fd, _, fun_pure F sc_outward_step (fun _ => rfl) (fun ⟨b, k, d⟩ cdv Ar outer s H E hC hr => ?_), T.g_outward_step, F.kp, F.bindsN (ps := ["beside", "direction"]) fun _ _ _ _ _ _ us hl => match us, hl with | [_, _], _ => rfl⟩
  obtain ⟨h0, h6, hd⟩ := hC
  dsimp only at h0 h6 hd
  have q : ∀ i : Int, 0 ≤ i → i < 3 → ixD (seqD k (d.map PyData.int)) i = some (.int (gi d i)) := fun i i0 i3 => by
    cases k with
    | true => exact ix_li i0 (by omega)
    | false => exact ix_ti i0 (by omega)
  exact (s_cons (s_asg 2 sc_outward_step.nd (x_ix (x_var 1) (x_fdiv (x_var 0) x_int (by walk_at "div")) (by exact q _ (by dsimp only; omega) (by dsimp only; omega)))
    (s_one (s_ret (x_iteI (t_eqI (x_sub (x_var 0) (x_mul (x_fdiv (x_var 0) x_int (by walk_at "div")) x_int (by walk_at "mul"))) x_int) (fun h => (x_var 2)) (fun h => (x_neg (x_var 2)))) (by rfl)))))
theorem c_face_level : Cal P w K mg base 1 "face_level" (spP P w K (ι := List Int × Int) (fun i => [bxV K i.1, .d (.int i.2)]) (fun i => i.1.length = 3 ∧ 0 ≤ i.2 ∧ i.2 < 6) (fun i => .d (.int (lvl i.1 i.2)))) := by
  obtain ⟨fd, F⟩ := T.D_face_level
  refine ⟨_, fd, _, fun_pure F sc_face_level (fun _ => rfl) (fun ⟨b, f⟩ cdv Ar outer s H E hC hr => ?_), T.g_face_level, F.kp, F.bindsN (ps := ["box", "face"]) fun _ _ _ _ _ _ us hl => match us, hl with | [_, _], _ => rfl⟩
  obtain ⟨h3, h0, h6⟩ := hC
  dsimp only at h3 h0 h6
  exact (s_one (s_ret (x_iteI (t_eqI (x_sub (x_var 1) (x_mul (x_fdiv (x_var 1) x_int (by walk_at "div")) x_int (by walk_at "mul"))) x_int) (fun h => (x_ix (x_fld (x_var 0) T.c_Box T.n_Box_sides (by rfl)) (x_fdiv (x_var 1) x_int (by walk_at "div")) (by walk_at "ix"))) (fun h => x_int)) (by rfl)))
theorem c_edge_ends : Cal P w K mg base 5 "edge_ends" (spP P w K (ι := List Int × Int × Int × List Int) (fun i => [bxV K i.1, .d (.int i.2.1), .d (.int i.2.2.1), .d (ti i.2.2.2)]) (fun i => i.1.length = 3 ∧ 0 ≤ i.2.1 ∧ i.2.1 < 6 ∧ 0 ≤ i.2.2.1 ∧ i.2.2.1 < 6 ∧ i.2.2.1 / 2 ≠ i.2.1 / 2 ∧ i.2.2.2.length = 3 ∧ Bd 10000 i.2.2.2) (fun i => .d (.tuple [.int (end0 i.1 i.2.1 i.2.2.1 i.2.2.2), .int (end1 i.1 i.2.1 i.2.2.1 i.2.2.2)]))) := by
  obtain ⟨fd, F⟩ := T.D_edge_ends
  refine ⟨_, fd, _, fun_pure F sc_edge_ends (fun _ => rfl) (fun ⟨s', f, b, d⟩ cdv Ar outer s H E hC hr => ?_), T.g_edge_ends, F.kp, F.bindsN (ps := ["box", "face", "beside", "direction"]) fun _ _ _ _ _ _ us hl => match us, hl with | [_, _, _, _], _ => rfl⟩
  obtain ⟨h3, h0, h6, b0, b6, hne, hd, hB⟩ := hC
  dsimp only at h3 h0 h6 b0 b6 hne hd hB
  have l0 : (spot0 s' f b).length = 3 := by unfold spot0; rw [List.length_set, List.length_set]; rfl
  have l1 : (spot1 s' f b).length = 3 := by unfold spot1; rw [List.length_set]; exact l0
  have z0 : (0 : Int) ≤ 3 := by decide
  exact (s_cons (s_asgN 4 sc_edge_ends.nd (n_lst (xp_cons x_int (xp_cons x_int (xp_cons x_int xp_nil)))) (fun _ e => by
    subst e
    exact (s_cons (s_setII 4 [0, 0, 0] (x_call (c_face_level T) hr (_, _) (xa_cons (x_var 0) (xa_cons (x_var 1) xa_nil)) (by walk_at "c")) (x_fdiv (x_var 1) x_int (by walk_at "div")) (by exact ⟨by dsimp only; omega, by show f / 2 < 3; omega⟩)
    (s_cons (s_setII 4 ([0, 0, 0].set (f / 2).toNat (lvl s' f)) (x_call (c_face_level T) hr (_, _) (xa_cons (x_var 0) (xa_cons (x_var 2) xa_nil)) (by walk_at "c")) (x_fdiv (x_var 2) x_int (by walk_at "div")) (by rw [List.length_set]; exact ⟨by dsimp only; omega, by show b / 2 < 3; omega⟩)
    (s_cons (s_asg 5 sc_edge_ends.nd (x_frz 4 (ds := (spot0 s' f b).map PyData.int) (x_call (c_measure_at T) hr (_, _, _) (xa_cons (x_var 1) (xa_cons (x_var 3) (xa_cons (x_var 4) xa_nil))) (by walk_at "c")))
    (s_cons (s_asg 6 sc_edge_ends.nd (x_sub (x_sub x_int (x_fdiv (x_var 1) x_int (by walk_at "div"))) (x_fdiv (x_var 2) x_int (by walk_at "div")))
    (s_cons (s_setII 4 (spot0 s' f b) (x_ix (x_fld (x_var 0) T.c_Box T.n_Box_sides (by rfl)) (x_var 6) (by walk_at "ix")) (x_var 6) (by dsimp only; omega)
    (s_freeze 4 (ds := (spot1 s' f b).map PyData.int) (s_one (s_ret (x_tup (xp_cons (x_var 5) (xp_cons (x_call (c_measure_at T) hr (_, _, _) (xa_cons (x_var 1) (xa_cons (x_var 3) (xa_cons (x_var 4) xa_nil))) (by walk_at "c")) xp_nil))) (by rfl)))))))))))))))))
end
end K27
set_option maxHeartbeats 4000000
/-! The defs, one by one: going on. -/
namespace K27
open PySem PySem.Spec PyProof.Rows L2
local macro_rules | `(tactic| walk_at "c") => `(tactic| first | trivial | assumption | (dsimp only; (repeat' apply And.intro) <;> first | assumption | trivial | omega) | ((repeat' apply And.intro) <;> first | assumption | trivial | omega))
local macro_rules | `(tactic| walk_at "ix") => `(tactic| (try dsimp only); first | exact ix_ti (by omega) (by omega) | exact ix_li (by omega) (by omega) | exact ix_frames (by omega) (by omega) | rfl)
local macro_rules | `(tactic| walk_at "sx") => `(tactic| (try dsimp only); exact ixN_of (by omega) (by first | omega | (simp only [List.length_set, List.length_map, List.length_cons, List.length_nil]; omega)))
local macro_rules | `(tactic| walk_at "div") => `(tactic| (try dsimp only); first | exact ⟨by omega, by omega⟩ | omega)
local macro_rules | `(tactic| walk_at "mul") => `(tactic| (try dsimp only); first | exact .inl ⟨by omega, by omega⟩ | exact .inr ⟨by omega, by omega⟩)
theorem shaped_ti {l : List Int} : SeqAt.shaped (ti l) = true := by
  have h1 : PyData.canLayAll0 (l.map PyData.int) = true := PySem.W.ke_canLayAll0 l
  have h2 : ∀ m : List Int, PyData.depthAll (m.map PyData.int) ≤ 1 := fun m => by
    induction m with
    | nil => decide
    | cons x r ih =>
      rw [List.map_cons, PyData.depthAll, PyData.depth]
      omega
  unfold SeqAt.shaped
  have h3 := h2 l
  rw [PyData.canLay0, h1, PyData.depth]
  exact decide_eq_true (by omega)
theorem shaped_li {l : List Int} : SeqAt.shaped (li l) = true := by
  have h := @shaped_ti l
  unfold SeqAt.shaped at h ⊢
  rw [PyData.canLay0.eq_def, PyData.depth.eq_def] at h ⊢
  exact h
theorem eqv_li {l m : List Int} : PyData.eqv (li l) (li m) = decide (l = m) := by
  rw [PyData.eqv]
  exact PySem.W.ked_eqvAll l m
theorem eqv_ti {l m : List Int} : PyData.eqv (ti l) (ti m) = decide (l = m) := by
  rw [PyData.eqv]
  exact PySem.W.ked_eqvAll l m
section
variable {P : Program} {w : World} {K : PySem.W.Frag} {mg : Str → Option Value} {base : Heap} (T : Tx K mg)
include T
theorem c_corner_bits : Cal P w K mg base 1 "corner_bits" (spP P w K (ι := Int) (fun c => [.d (.int c)]) (fun c => True) (fun c => .d (ti (cbits c)))) := by
  obtain ⟨fd, F⟩ := T.D_corner_bits
  refine ⟨_, fd, _, fun_pure F sc_corner_bits (fun _ => rfl) (fun c cdv Ar outer s H E hC hr => ?_), T.g_corner_bits, F.kp, F.bindsN (ps := ["corner"]) fun _ _ _ _ _ _ us hl => match us, hl with | [_], _ => rfl⟩
  exact (s_one (s_ret (x_tup (xp_cons (x_fdiv (x_var 0) x_int (by walk_at "div")) (xp_cons (x_sub (x_fdiv (x_var 0) x_int (by walk_at "div")) (x_mul (x_fdiv (x_var 0) x_int (by walk_at "div")) x_int (by walk_at "mul"))) (xp_cons (x_sub (x_var 0) (x_mul (x_fdiv (x_var 0) x_int (by walk_at "div")) x_int (by walk_at "mul"))) xp_nil)))) (by rfl)))
theorem c_faces_of_corner : Cal P w K mg base 3 "faces_of_corner" (spP P w K (ι := Int) (fun c => [.d (.int c)]) (fun c => 0 ≤ c ∧ c < 8) (fun c => .d (ti (focM c)))) := by
  obtain ⟨fd, F⟩ := T.D_faces_of_corner
  refine ⟨_, fd, _, fun_pure F sc_faces_of_corner (fun _ => rfl) (fun c cdv Ar outer s H E hC hr => ?_), T.g_faces_of_corner, F.kp, F.bindsN (ps := ["corner"]) fun _ _ _ _ _ _ us hl => match us, hl with | [_], _ => rfl⟩
  have l3 : (cbits c).length = 3 := rfl
  exact (s_cons (s_asg 1 sc_faces_of_corner.nd (x_call (c_corner_bits T) hr _ (xa_cons (x_call (c_check_corner T) hr _ (xa_cons (x_var 0) xa_nil) (by walk_at "c")) xa_nil) (by walk_at "c"))
    (s_one (s_ret (x_tup (xp_cons (x_ix (x_var 1) x_int (by exact ix_ti (by decide) (by rw [l3]; decide))) (xp_cons (x_add x_int (x_ix (x_var 1) x_int (by exact ix_ti (by decide) (by rw [l3]; decide)))) (xp_cons (x_add x_int (x_ix (x_var 1) x_int (by exact ix_ti (by decide) (by rw [l3]; decide)))) xp_nil)))) (by rfl)))))
theorem c_leaving_faces : Cal P w K mg base 4 "leaving_faces" (spP P w K (ι := Int × List Int) (fun i => [.d (.int i.1), .d (ti i.2)]) (fun i => 0 ≤ i.1 ∧ i.1 < 6 ∧ i.2.length = 3) (fun i => .d (li (leavL i.1 i.2)))) := by
  obtain ⟨fd, F⟩ := T.D_leaving_faces
  refine ⟨_, fd, _, fun_pure F sc_leaving_faces (fun _ => rfl) (fun ⟨f, d⟩ cdv Ar outer s H E hC hr => ?_), T.g_leaving_faces, F.kp, F.bindsN (ps := ["face", "direction"]) fun _ _ _ _ _ _ us hl => match us, hl with | [_, _], _ => rfl⟩
  obtain ⟨h0, h6, hd⟩ := hC
  dsimp only at h0 h6 hd
  have e := range_filter (besidesL f) (fun b => decide (0 < outw b d)) (fun b => PyData.int b)
  have q : ∀ i, i < (besidesL f).length → 0 ≤ (besidesL f).getD i 0 ∧ (besidesL f).getD i 0 < 6 := fun i hi => by
    have z := besidesL_b (getD_mem hi)
    exact ⟨z.1, z.2.1⟩
  have hn : (besidesL f).length ≤ 100000 := by
    unfold besidesL
    rw [List.length_map]
    exact Nat.le_trans (List.length_filter_le _ _) (by rw [List.length_range]; decide)
  exact (s_one (s_ret (x_n (n_lcF 2 (fun i => decide (0 < outw ((besidesL f).getD i 0) d)) (fun i => .int ((besidesL f).getD i 0)) rfl sc_leaving_faces.nd wlk_ti (p_tup (x_call (c_faces_beside T) hr _ (xa_cons (x_var 0) xa_nil) (by walk_at "c"))) (blkOk_by (N := N_leaving_faces) (sc := defScope st_leaving_faces) (own := [("beside", 2)]) (by decide +kernel)) (fun _ _ _ _ _ => pg_name (i := 2) sc_leaving_faces.nd rfl (Or.inl rfl)) (fun i hi _ _ _ _ _ => (t_gt (x_call (c_outward_step T) hr (_, false, _) (xa_cons (x_var 2) (xa_cons (x_var 1) xa_nil)) (by exact ⟨(q i hi).1, (q i hi).2, hd⟩)) x_int)) (fun i hi hf _ _ _ _ _ => (x_var 2)) hn)) (by exact congrArg (fun l => VD.d (.list l)) e)))
theorem c_turned_back : Cal P w K mg base 3 "turned_back" (spP P w K (ι := Int × List Int × Int × Int) (fun i => [stV K (.int i.1) (ti i.2.1) (.int i.2.2.1) (.int i.2.2.2)]) (fun i => i.2.1.length = 3) (fun i => stV K (.int i.1) (ti (negL i.2.1)) (.int (-i.2.2.2)) (.int (-i.2.2.1)))) := by
  obtain ⟨fd, F⟩ := T.D_turned_back
  refine ⟨_, fd, _, fun_pure F sc_turned_back (fun _ => rfl) (fun ⟨f, d, lo, hi⟩ cdv Ar outer s H E hC hr => ?_), T.g_turned_back, F.kp, F.bindsN (ps := ["strip"]) fun _ _ _ _ _ _ us hl => match us, hl with | [_], _ => rfl⟩
  have hC : d.length = 3 := hC
  have e := range_map d (fun b => PyData.int (-b))
  have e2 : ti (negL d) = .tuple (d.map fun b => PyData.int (-b)) := by
    unfold negL ti
    rw [List.map_map]
    rfl
  exact (s_one (s_ret (x_make (k_Strip T) hr (xp_cons (x_fld (x_var 0) T.c_Strip T.n_Strip_face (by rfl)) (xp_cons (x_tupL T.f_tuple PyProof.Rows.boot_tuple (x_n (n_lcD 1 (fun i => .int (-d.getD i 0)) rfl sc_turned_back.nd wlk_ti (p_tup (x_fld (x_var 0) T.c_Strip T.n_Strip_direction (by rfl))) (blkOk_by (N := N_turned_back) (sc := defScope st_turned_back) (own := [("step", 1)]) (by decide +kernel)) (fun _ _ _ _ _ => pg_name (i := 1) sc_turned_back.nd rfl (Or.inl rfl)) (fun i hi _ _ _ _ _ => (x_neg (x_var 1))) (by omega)))) (xp_cons (x_neg (x_fld (x_var 0) T.c_Strip T.n_Strip_high (by rfl))) (xp_cons (x_neg (x_fld (x_var 0) T.c_Strip T.n_Strip_low (by rfl))) xp_nil))))) (by rw [e2, ← e]; rfl)))
theorem c_gone_over : Cal P w K mg base 2 "gone_over" (spP P w K (ι := Int × Int × List Int) (fun i => [.d (.int i.1), .d (.int i.2.1), .d (ti i.2.2)]) (fun i => 0 ≤ i.1 ∧ i.1 < 6 ∧ 0 ≤ i.2.1 ∧ i.2.1 < 6 ∧ i.2.2.length = 3) (fun i => .d (ti (goneM i.1 i.2.1 i.2.2)))) := by
  obtain ⟨fd, F⟩ := T.D_gone_over
  refine ⟨_, fd, _, fun_pure F sc_gone_over (fun _ => rfl) (fun ⟨f, b, d⟩ cdv Ar outer s H E hC hr => ?_), T.g_gone_over, F.kp, F.bindsN (ps := ["face", "beside", "direction"]) fun _ _ _ _ _ _ us hl => match us, hl with | [_, _, _], _ => rfl⟩
  obtain ⟨h0, h6, b0, b6, hd⟩ := hC
  dsimp only at h0 h6 b0 b6 hd
  exact (s_cons (s_asgN 3 sc_gone_over.nd (n_list T.f_list false PyProof.Rows.boot_list (x_var 2)) (fun _ e => by
    subst e
    exact (s_cons (s_asg 4 sc_gone_over.nd (x_frz 3 (ds := d.map PyData.int) (x_call (c_outward_step T) hr (_, true, _) (xa_cons (x_var 1) (xa_cons (x_var 3) xa_nil)) (by exact ⟨b0, b6, hd⟩)))
    (s_cons (s_setII 3 d x_int (x_fdiv (x_var 1) x_int (by walk_at "div")) (by dsimp only; omega)
    (s_cons (s_setII 3 (d.set (b / 2).toNat 0) (x_iteI (t_eqI (x_sub (x_var 0) (x_mul (x_fdiv (x_var 0) x_int (by walk_at "div")) x_int (by walk_at "mul"))) x_int) (fun h => (x_neg (x_var 4))) (fun h => (x_var 4))) (x_fdiv (x_var 0) x_int (by walk_at "div")) (by rw [List.length_set]; dsimp only; omega)
    (s_freeze 3 (ds := (goneM f b d).map PyData.int) (s_one (s_ret (x_tupL T.f_tuple PyProof.Rows.boot_tuple (x_var 3)) (by rfl)))))))))))))
end
end K27
set_option maxHeartbeats 4000000
/-! The defs, one by one: onward, split_ahead, Box. -/
namespace K27
open PySem PySem.Spec PyProof.Rows L2
open PySem.W (sortI sortI_perm sortI_rises)
local macro_rules | `(tactic| walk_at "c") => `(tactic| first | trivial | assumption | (dsimp only; (repeat' apply And.intro) <;> first | assumption | trivial | omega) | ((repeat' apply And.intro) <;> first | assumption | trivial | omega))
local macro_rules | `(tactic| walk_at "ix") => `(tactic| (try dsimp only); first | exact ix_ti (by omega) (by omega) | exact ix_li (by omega) (by omega) | exact ix_frames (by omega) (by omega) | rfl)
local macro_rules | `(tactic| walk_at "sx") => `(tactic| (try dsimp only); exact ixN_of (by omega) (by first | omega | (simp only [List.length_set, List.length_map, List.length_cons, List.length_nil]; omega)))
local macro_rules | `(tactic| walk_at "div") => `(tactic| (try dsimp only); first | exact ⟨by omega, by omega⟩ | omega)
local macro_rules | `(tactic| walk_at "mul") => `(tactic| (try dsimp only); first | exact .inl ⟨by omega, by omega⟩ | exact .inr ⟨by omega, by omega⟩)
def onwV (K : PySem.W.Frag) : Option (Int × List Int × Int × Int) → VD
  | none => .d .none
  | some (b, d, lo, hi) => stV K (.int b) (ti d) (.int lo) (.int hi)
def splC (f : Int) (d : List Int) : Int := cornM (sortI (leavL f d ++ [f]))
theorem besidesL_len (f : Int) : (besidesL f).length ≤ 6 := by
  unfold besidesL
  rw [List.length_map]
  exact Nat.le_trans (List.length_filter_le _ _) (by rw [List.length_range]; decide)
theorem leavL_len (f : Int) (d : List Int) : (leavL f d).length ≤ 6 := Nat.le_trans (List.length_filter_le _ _) (besidesL_len f)
section
variable {P : Program} {w : World} {K : PySem.W.Frag} {mg : Str → Option Value} {base : Heap} (T : Tx K mg)
include T
theorem c_onward : Cal P w K mg base 6 "onward" (spP P w K (ι := List Int × Int × List Int × Int × Int) (fun i => [bxV K i.1, stV K (.int i.2.1) (ti i.2.2.1) (.int i.2.2.2.1) (.int i.2.2.2.2)]) (fun i => i.1.length = 3 ∧ 0 ≤ i.2.1 ∧ i.2.1 < 6 ∧ i.2.2.1.length = 3 ∧ Bd 10000 i.2.2.1) (fun i => onwV K (onwM i.1 i.2.1 i.2.2.1 i.2.2.2.1 i.2.2.2.2))) := by
  obtain ⟨fd, F⟩ := T.D_onward
  refine ⟨_, fd, _, fun_pure F sc_onward (fun _ => rfl) (fun ⟨s', f, d, lo, hi⟩ cdv Ar outer s H E hC hr => ?_), T.g_onward, F.kp, F.bindsN (ps := ["box", "strip"]) fun _ _ _ _ _ _ us hl => match us, hl with | [_, _], _ => rfl⟩
  obtain ⟨h3, h0, h6, hd, hB⟩ := hC
  dsimp only at h3 h0 h6 hd hB
  let l := leavL f d
  have lb : ∀ i, i < l.length → 0 ≤ l.getD i 0 ∧ l.getD i 0 < 6 ∧ l.getD i 0 / 2 ≠ f / 2 := fun i hi => by
    have z := leavL_b (getD_mem hi)
    exact ⟨z.1, z.2.1, z.2.2.1⟩
  let sv : VD := stV K (.int f) (ti d) (.int lo) (.int hi)
  refine s_cons (s_for 2 (fun i G => (∀ k, k < i → onwT s' f d lo hi (l.getD k 0) = none) ∧ ∃ o2 o3, G = [some (.v (bxV K s')), some (.v sv), o2, o3, none, none]) PassesOwn.never rfl wlk_li sc_onward.nd (p_lst (x_call (c_leaving_faces T) hr (_, _) (xa_cons (x_fld (x_var 1) T.c_Strip T.n_Strip_face (by rfl)) (xa_cons (x_fld (x_var 1) T.c_Strip T.n_Strip_direction (by rfl)) xa_nil)) (by walk_at "c"))) ?_ ?_ ?_ ?_)
  · intro i G hG
    obtain ⟨_, o2, o3, rfl⟩ := hG
    exact Nat.le_of_ble_eq_true rfl
  · exact ⟨fun k hk => absurd hk (Nat.not_lt_zero k), none, none, rfl⟩
  · intro i G hi' hG
    obtain ⟨hn, o2, o3, rfl⟩ := hG
    obtain ⟨b0, b6, bn⟩ := lb i hi'
    have gb : Bd 10000 (goneM f (l.getD i 0) d) := goneM_bd (by decide) hB (by omega) (by omega)
    have gl : (goneM f (l.getD i 0) d).length = 3 := by rw [goneM_len]; exact hd
    refine s_cons (s_asg 3 sc_onward.nd (x_call (c_edge_ends T) hr (_, _, _, _) (xa_cons (x_var 0) (xa_cons (x_fld (x_var 1) T.c_Strip T.n_Strip_face (by rfl)) (xa_cons (x_var 2) (xa_cons (x_fld (x_var 1) T.c_Strip T.n_Strip_direction (by rfl)) xa_nil)))) (by exact ⟨h3, h0, h6, b0, b6, bn, hd, hB⟩)) ?_)
    refine s_one (s_if (w_and (t_le (x_min2T rfl hr T.f_min PyProof.Rows.boot_min (x_var 3)) (x_fld (x_var 1) T.c_Strip T.n_Strip_low (by rfl))) (fun _ => (w_and1 (t_le (x_fld (x_var 1) T.c_Strip T.n_Strip_high (by rfl)) (x_max2T rfl hr T.f_max PyProof.Rows.boot_max (x_var 3)))))).pt ?_ ?_)
    · intro h
      refine s_cons (s_asg 4 sc_onward.nd (x_call (c_gone_over T) hr (_, _, _) (xa_cons (x_fld (x_var 1) T.c_Strip T.n_Strip_face (by rfl)) (xa_cons (x_var 2) (xa_cons (x_fld (x_var 1) T.c_Strip T.n_Strip_direction (by rfl)) xa_nil))) (by exact ⟨h0, h6, b0, b6, hd⟩)) ?_)
      refine s_cons (s_asg 5 sc_onward.nd (x_sub (x_ix (x_call (c_edge_ends T) hr (_, _, _, _) (xa_cons (x_var 0) (xa_cons (x_var 2) (xa_cons (x_fld (x_var 1) T.c_Strip T.n_Strip_face (by rfl)) (xa_cons (x_var 4) xa_nil)))) (by exact ⟨h3, b0, b6, h0, h6, fun z => bn z.symm, gl, gb⟩)) x_int (by rfl)) (x_ix (x_var 3) x_int (by rfl))) ?_)
      refine s_one (s_ret (x_make (k_Strip T) hr (xp_cons (x_var 2) (xp_cons (x_var 4) (xp_cons (x_add (x_fld (x_var 1) T.c_Strip T.n_Strip_low (by rfl)) (x_var 5)) (xp_cons (x_add (x_fld (x_var 1) T.c_Strip T.n_Strip_high (by rfl)) (x_var 5)) xp_nil))))) ?_)
      have h := He.ba h.symm
      have e : onwT s' f d lo hi (l.getD i 0) = some _ := if_pos ⟨of_decide_eq_true h.1, of_decide_eq_true h.2⟩
      have e2 : onwM s' f d lo hi = _ := fstM_at hn hi' e
      show _ = onwV K (onwM s' f d lo hi)
      rw [e2]
      rfl
    · intro h
      refine s_nil ⟨fun k hk => ?_, _, _, rfl⟩
      by_cases ek : k = i
      · subst ek
        refine if_neg fun z => ?_
        have h : false = (decide (min (end0 s' f (l.getD k 0) d) (end1 s' f (l.getD k 0) d) ≤ lo) && decide (hi ≤ max (end0 s' f (l.getD k 0) d) (end1 s' f (l.getD k 0) d))) := h
        rw [decide_eq_true z.1, decide_eq_true z.2] at h
        cases h
      · exact hn k (by omega)
  · intro G hG
    obtain ⟨hn, o2, o3, rfl⟩ := hG
    have e2 : onwM s' f d lo hi = none := fstM_none hn
    refine s_one (s_ret x_non ?_)
    show _ = onwV K (onwM s' f d lo hi)
    rw [e2]
    rfl
theorem c_split_ahead : Cal P w K mg base 5 "split_ahead" (spP P w K (ι := Int × List Int × Int × Int) (fun i => [stV K (.int i.1) (ti i.2.1) (.int i.2.2.1) (.int i.2.2.2)]) (fun i => 0 ≤ i.1 ∧ i.1 < 6 ∧ i.2.1.length = 3) (fun i => spV K (.int (splC i.1 i.2.1)))) := by
  obtain ⟨fd, F⟩ := T.D_split_ahead
  refine ⟨_, fd, _, fun_pure F sc_split_ahead (fun _ => rfl) (fun ⟨f, d, lo, hi⟩ cdv Ar outer s H E hC hr => ?_), T.g_split_ahead, F.kp, F.bindsN (ps := ["strip"]) fun _ _ _ _ _ _ us hl => match us, hl with | [_], _ => rfl⟩
  obtain ⟨h0, h6, hd⟩ := hC
  dsimp only at h0 h6 hd
  let l : List Int := leavL f d ++ [f]
  have ll : l.length ≤ 7 := by
    have := leavL_len f d
    show (leavL f d ++ [f]).length ≤ 7
    rw [List.length_append]
    show (leavL f d).length + 1 ≤ 7
    omega
  have le : leavL f d ++ [f] = l := rfl
  have lm : (leavL f d).map PyData.int ++ [.int f] = l.map PyData.int := by
    show _ = (leavL f d ++ [f]).map PyData.int
    rw [List.map_append]
    rfl
  let t : Int → Option Int := fun k => if sortI l = focM k then some k else none
  let L8 : List Int := [0, 1, 2, 3, 4, 5, 6, 7]
  let sv : VD := stV K (.int f) (ti d) (.int lo) (.int hi)
  have lg : ∀ i : Nat, i < 8 → L8.getD i 0 = 0 + (i : Int) := fun i hi => by
    have : i = 0 ∨ i = 1 ∨ i = 2 ∨ i = 3 ∨ i = 4 ∨ i = 5 ∨ i = 6 ∨ i = 7 := by omega
    rcases this with rfl | rfl | rfl | rfl | rfl | rfl | rfl | rfl <;> rfl
  refine s_cons (s_asgN 1 sc_split_ahead.nd (n_cat (x_call (c_leaving_faces T) hr (_, _) (xa_cons (x_fld (x_var 0) T.c_Strip T.n_Strip_face (by rfl)) (xa_cons (x_fld (x_var 0) T.c_Strip T.n_Strip_direction (by rfl)) xa_nil)) (by walk_at "c")) (x_lst (xp_cons (x_fld (x_var 0) T.c_Strip T.n_Strip_face (by rfl)) xp_nil)) (by have := leavL_len f d; dsimp only; rw [List.length_map]; show (leavL f d).length + 1 ≤ 1000; omega)) (fun _ e => ?_))
  have e := e.trans lm
  subst e
  refine s_freeze 1 (ds := l.map PyData.int) ?_
  refine s_cons (s_for 2 (fun i G => (∀ k, k < i → t (L8.getD k 0) = none) ∧ ∃ o2, G = [some (.v sv), some (.v (.d (li l))), o2] ∧ (i = 8 → o2 = some (.v (.d (.int 7))))) PassesOwn.never rfl (wlk_rng1 (by omega)) sc_split_ahead.nd (p_rng1 T.f_range x_int) ?_ ?_ ?_ ?_)
  · intro i G hG
    obtain ⟨_, o2, rfl, _⟩ := hG
    exact Nat.le_of_ble_eq_true rfl
  · exact ⟨fun k hk => absurd hk (Nat.not_lt_zero k), none, rfl, fun z => by cases z⟩
  · intro i G hi' hG
    obtain ⟨hn, o2, rfl, _⟩ := hG
    have hi' : i < 8 := hi'
    refine s_one (s_if (t_eqD hr (x_n (n_sorted T.f_sorted (sortI_perm l) (sortI_rises l) PyProof.Rows.boot_sorted (x_var 1) (by omega))) (x_n (n_list T.f_list false PyProof.Rows.boot_list (x_call (c_faces_of_corner T) hr _ (xa_cons (x_var 2) xa_nil) (by omega)))) shaped_li shaped_li) ?_ ?_)
    · intro h
      have h : true = PyData.eqv (li (sortI l)) (li (focM (0 + (i : Int)))) := h
      rw [eqv_li] at h
      have e : t (L8.getD i 0) = some (0 + (i : Int)) := by
        rw [lg i hi']
        exact if_pos (of_decide_eq_true h.symm)
      have e2 : splC f d = 0 + (i : Int) := by
        show (fstM t L8).getD 7 = _
        rw [fstM_at hn hi' e]
        rfl
      refine s_one (s_break ?_)
      refine s_one (s_ret (x_make (k_Split T) hr (xp_cons (x_var 2) xp_nil)) ?_)
      show _ = spV K (.int (splC f d))
      rw [e2]
      rfl
    · intro h
      have h : false = PyData.eqv (li (sortI l)) (li (focM (0 + (i : Int)))) := h
      rw [eqv_li] at h
      refine s_nil ⟨fun k hk => ?_, _, rfl, fun z => ?_⟩
      · by_cases ek : k = i
        · subst ek
          rw [lg k hi']
          exact if_neg (of_decide_eq_false h.symm)
        · exact hn k (by omega)
      · have : i = 7 := by omega
        subst this
        rfl
  · intro G hG
    obtain ⟨hn, o2, rfl, e7⟩ := hG
    rw [e7 rfl]
    have e2 : splC f d = 7 := by
      show (fstM t L8).getD 7 = _
      rw [fstM_none (t := t) (l := L8) hn]
      rfl
    refine s_one (s_ret (x_make (k_Split T) hr (xp_cons (x_var 2) xp_nil)) ?_)
    show _ = spV K (.int (splC f d))
    rw [e2]
    rfl
end
end K27
set_option maxHeartbeats 4000000
/-! The defs, one by one: what may raise. -/
namespace K27
open PySem PySem.Spec PyProof.Rows L2
local macro_rules | `(tactic| walk_at "c") => `(tactic| first | trivial | assumption | (dsimp only; (repeat' apply And.intro) <;> first | assumption | trivial | omega) | ((repeat' apply And.intro) <;> first | assumption | trivial | omega))
local macro_rules | `(tactic| walk_at "ix") => `(tactic| (try dsimp only); first | exact ix_ti (by omega) (by omega) | exact ix_li (by omega) (by omega) | exact ix_frames (by omega) (by omega) | rfl)
local macro_rules | `(tactic| walk_at "sx") => `(tactic| (try dsimp only); exact ixN_of (by omega) (by first | omega | (simp only [List.length_set, List.length_map, List.length_cons, List.length_nil]; omega)))
local macro_rules | `(tactic| walk_at "div") => `(tactic| (try dsimp only); first | exact ⟨by omega, by omega⟩ | omega)
local macro_rules | `(tactic| walk_at "mul") => `(tactic| (try dsimp only); first | exact .inl ⟨by omega, by omega⟩ | exact .inr ⟨by omega, by omega⟩)
def intD : PyData → Int
  | .int i => i
  | _ => 0
def wholeD (x : PyData) (lo hi : Int) : Bool := match x with
  | .int i => decide (lo ≤ i) && decide (i ≤ hi)
  | _ => false
inductive Rz (α : Type) where
  | ok (a : α)
  | no (c f : Str) (x : PyData)
def rzO {α : Type} (K : PySem.W.Frag) (g : α → VD) : Rz α → O
  | .ok a => .rt (g a)
  | .no c f x => .ex (He.ga K c) f x
def faceR (x : PyData) : Rz PyData := if wholeD x 0 5 = true then .ok x else .no "BadFace" "face" x
def badD (z : Str) : Rz (List Int) := .no "BadDirection" "what" (.str z)
def dirR (x : PyData) (l : List Int) : Rz (List Int) :=
  if wholeD x 0 5 = true then
    (if l.length = 3 then
      (if gi l (intD x / 2) = 0 then
        (if gi l (a1 (intD x)) = 0 ∧ gi l (a2 (intD x)) = 0 then badD "both"
        else if Nat.gcd (gi l (a1 (intD x))).natAbs (gi l (a2 (intD x))).natAbs = 1 then .ok l else badD "common")
      else badD "axis")
    else badD "kind")
  else .no "BadFace" "face" x
theorem wholeD_int {x : PyData} {lo hi : Int} (h : wholeD x lo hi = true) : x = .int (intD x) ∧ lo ≤ intD x ∧ intD x ≤ hi := by
  cases x with
  | int i =>
    obtain ⟨h1, h2⟩ := He.ba (show (decide (lo ≤ i) && decide (i ≤ hi)) = true from h)
    exact ⟨rfl, of_decide_eq_true h1, of_decide_eq_true h2⟩
  | _ => cases h
def isB : PyData → Bool
  | .bool _ => true
  | _ => false
def isIB : PyData → Bool
  | .bool _ => true
  | .int _ => true
  | _ => false
theorem kq_NoneType_bool : kitB "NoneType" "bool" = some false := by decide +kernel
theorem kq_bool_bool : kitB "bool" "bool" = some true := by decide +kernel
theorem kq_int_bool : kitB "int" "bool" = some false := by decide +kernel
theorem kq_str_bool : kitB "str" "bool" = some false := by decide +kernel
theorem kq_list_bool : kitB "list" "bool" = some false := by decide +kernel
theorem kq_tuple_bool : kitB "tuple" "bool" = some false := by decide +kernel
theorem kq_dict_bool : kitB "dict" "bool" = some false := by decide +kernel
theorem kq_NoneType_int : kitB "NoneType" "int" = some false := by decide +kernel
theorem kq_bool_int : kitB "bool" "int" = some true := by decide +kernel
theorem kq_int_int : kitB "int" "int" = some true := by decide +kernel
theorem kq_str_int : kitB "str" "int" = some false := by decide +kernel
theorem kq_list_int : kitB "list" "int" = some false := by decide +kernel
theorem kq_tuple_int : kitB "tuple" "int" = some false := by decide +kernel
theorem kq_dict_int : kitB "dict" "int" = some false := by decide +kernel
theorem kq_list_list : kitB "list" "list" = some true := by decide +kernel
theorem kq_tuple_list : kitB "tuple" "list" = some false := by decide +kernel
theorem kq_list_tuple : kitB "list" "tuple" = some false := by decide +kernel
theorem kq_tuple_tuple : kitB "tuple" "tuple" = some true := by decide +kernel
theorem kq_NoneType_tuple : kitB "NoneType" "tuple" = some false := by decide +kernel
theorem kq_bool_tuple : kitB "bool" "tuple" = some false := by decide +kernel
theorem kq_int_tuple : kitB "int" "tuple" = some false := by decide +kernel
theorem kq_str_tuple : kitB "str" "tuple" = some false := by decide +kernel
theorem kq_dict_tuple : kitB "dict" "tuple" = some false := by decide +kernel
theorem kB : ∀ x : PyData, kitB (tyD x) "bool" = some (isB x)
  | .none => kq_NoneType_bool
  | .bool _ => kq_bool_bool
  | .int _ => kq_int_bool
  | .str _ => kq_str_bool
  | .list _ => kq_list_bool
  | .tuple _ => kq_tuple_bool
  | .dict _ => kq_dict_bool
theorem kI : ∀ x : PyData, kitB (tyD x) "int" = some (isIB x)
  | .none => kq_NoneType_int
  | .bool _ => kq_bool_int
  | .int _ => kq_int_int
  | .str _ => kq_str_int
  | .list _ => kq_list_int
  | .tuple _ => kq_tuple_int
  | .dict _ => kq_dict_int
theorem kL (ds : List PyData) : ∀ b : Bool, kitB (tyD (seqD b ds)) "list" = some b
  | true => kq_list_list
  | false => kq_tuple_list
theorem kT (ds : List PyData) : ∀ b : Bool, kitB (tyD (seqD b ds)) "tuple" = some (!b)
  | true => kq_list_tuple
  | false => kq_tuple_tuple
theorem whole_no {x : PyData} {lo hi : Int} (h : (isB x || !isIB x) = true) : wholeD x lo hi = false := by cases x <;> first | rfl | cases h
theorem whole_yes {x : PyData} (h : (isB x || !isIB x) = false) : x = .int (intD x) := by cases x <;> first | rfl | cases h
def iSq (K : PySem.W.Frag) (b : Bool) (te : TE) : TI := if b then iList K te else iTup K te
theorem wlk_sq {Z : Zt} {Γ : Gm} (b : Bool) {l : List Int} : Wlk Z Γ (iSq Z.K b (tD Z Γ (fun y => y = .d (seqD b (l.map PyData.int))))) l.length (fun i => .d (.int (l.getD i 0))) := by
  cases b with
  | true => exact wlk_li
  | false => exact wlk_ti
theorem p_sq {X : Cx} {M : Option Addr} {Γ : Gm} {tg e : Expr} (b : Bool) {ds : List PyData} (h : PE X e (tD (zx X M) Γ (fun y => y = .d (seqD b ds)))) : PI X tg e (iSq (zx X M).K b (tD (zx X M) Γ (fun y => y = .d (seqD b ds)))) := by
  cases b with
  | true => exact p_lst h
  | false => exact p_tup h
theorem ix_sq (b : Bool) {l : List Int} {i : Int} (h0 : 0 ≤ i) (h : i < l.length) : ixD (seqD b (l.map PyData.int)) i = some (.int (gi l i)) := by
  cases b with
  | true => exact ix_li h0 h
  | false => exact ix_ti h0 h
section
variable {P : Program} {w : World} {K : PySem.W.Frag} {mg : Str → Option Value} {base : Heap} (T : Tx K mg)
include T
theorem c_wholeD : Cal P w K mg base 1 "is_whole" (spP P w K (ι := PyData × Int × Int) (fun i => [.d i.1, .d (.int i.2.1), .d (.int i.2.2)]) (fun _ => True) (fun i => .d (.bool (wholeD i.1 i.2.1 i.2.2)))) := by
  obtain ⟨fd, F⟩ := T.D_is_whole
  obtain ⟨ds, hv, hb⟩ := F.binds1 (ps := ["thing", "low", "high"]) 3 2 (List.cons_ne_nil _ _) rfl fun T kV doc pm an cdv ct us its h1 h2 => match us, its, h1, h2 with | [_, _, _], [_, _], _, _ => ⟨_, rfl, rfl⟩
  have e : ds = [] := by
    cases hv
    rfl
  subst e
  refine ⟨_, fd, _, fun_pure F sc_is_whole (fun _ => rfl) (fun ⟨x, lo, hi⟩ cdv Ar outer s H E hC hr => ?_), T.g_is_whole, F.kp, hb⟩
  refine s_cons (s_if (w_or (t_v (x_isi T.f_isinstance (x_var 0) (c_ty T.f_bool PyProof.Rows.boot_bool) (kB x) PyProof.Rows.boot_isinstance)) (fun _ => w_or1 (t_not (t_v (x_isi T.f_isinstance (x_var 0) (c_ty T.f_int PyProof.Rows.boot_int) (kI x) PyProof.Rows.boot_isinstance))))).pt ?_ ?_)
  · intro h
    have e : wholeD x lo hi = false := whole_no h.symm
    refine s_one (s_ret x_bl ?_)
    show _ = VD.d (.bool (wholeD x lo hi))
    rw [e]
  · intro h
    have e := whole_yes h.symm
    generalize intD x = j at e
    subst e
    exact s_nil (s_one (s_ret (x_and (x_or (x_isN (x_var 1)) (fun _ => x_one (x_ge (x_var 0) (x_var 1)))) (fun _ => x_one (x_or (x_isN (x_var 2)) (fun _ => x_one (x_le (x_var 0) (x_var 2)))))) (by rfl)))
theorem c_check_faceX : CalX P w K mg base 3 "check_face" (spO P w K (ι := PyData) (fun x => [.d x]) (fun _ => True) (fun x => rzO K VD.d (faceR x))) := by
  obtain ⟨fd, F⟩ := T.D_check_face
  refine ⟨_, fd, _, fun_ex F sc_check_face (fun _ => rfl) (fun x cdv Ar outer s H E hC hr => ?_), T.g_check_face, F.kp, F.bindsN (ps := ["face"]) fun _ _ _ _ _ _ us hl => match us, hl with | [_], _ => rfl⟩
  refine s_cons (s_if (t_not (t_v (x_call (c_wholeD T) hr (_, _, _) (xa_cons (x_var 0) (xa_cons x_int (xa_cons x_int xa_nil))) (by trivial)))) ?_ ?_)
  · intro h
    have h : true = !wholeD x 0 5 := h
    refine s_one (s_raise (i_BadFace T) hr (takes_of rfl rfl rfl rfl) rfl (x_var 0) ?_)
    show rzO K VD.d (faceR x) = _
    unfold faceR
    rw [if_neg (by intro z; rw [z] at h; cases h)]
    rfl
  · intro h
    have h : false = !wholeD x 0 5 := h
    refine s_nil (s_one (s_ret (x_var 0) ?_))
    show rzO K VD.d (faceR x) = _
    unfold faceR
    rw [if_pos (by cases q : wholeD x 0 5 with | true => rfl | false => rw [q] at h; cases h)]
    rfl
theorem c_check_direction : CalX P w K mg base 6 "check_direction" (spO P w K (ι := PyData × PyData × Bool × List Int) (fun i => [.d i.1, .d i.2.1]) (fun i => wholeD i.1 0 5 = true → i.2.1 = seqD i.2.2.1 (i.2.2.2.map PyData.int) ∧ Bd 10000 i.2.2.2) (fun i => rzO K (fun l => .d (ti l)) (dirR i.1 i.2.2.2))) := by
  obtain ⟨fd, F⟩ := T.D_check_direction
  refine ⟨_, fd, _, fun_ex F sc_check_direction (fun _ => rfl) (fun ⟨x, y, b, l⟩ cdv Ar outer s H E hC hr => ?_), T.g_check_direction, F.kp, F.bindsN (ps := ["face", "direction"]) fun _ _ _ _ _ _ us hl => match us, hl with | [_, _], _ => rfl⟩
  dsimp only at hC
  obtain ⟨t0, hms⟩ := T.i_MOST_STEP
  by_cases hw : wholeD x 0 5 = true
  · obtain ⟨e1, h0, h5⟩ := wholeD_int hw
    obtain ⟨e2, hB⟩ := hC hw
    have ed : dirR x l = (if l.length = 3 then
      (if gi l (intD x / 2) = 0 then
        (if gi l (a1 (intD x)) = 0 ∧ gi l (a2 (intD x)) = 0 then badD "both"
        else if Nat.gcd (gi l (a1 (intD x))).natAbs (gi l (a2 (intD x))).natAbs = 1 then .ok l else badD "common")
      else badD "axis")
    else badD "kind") := if_pos hw
    generalize ef : intD x = f at *
    subst e2 e1
    have c1 := a1_b h0 (by omega : f < 6)
    have c2 := a2_b h0 (by omega : f < 6)
    refine s_cons (s_expr (x_callO (c_check_faceX T) hr _ (r := .d (.int f)) (xa_cons (x_var 0) xa_nil) (by trivial) (by show rzO K VD.d (faceR (.int f)) = _; unfold faceR; rw [if_pos hw]; rfl)) ?_)
    refine s_cons (s_if (w_or (t_not (t_v (x_isi2 T.f_isinstance (x_var 1) (c_ty T.f_list PyProof.Rows.boot_list) (c_ty T.f_tuple PyProof.Rows.boot_tuple) (kL _ b) (kT _ b) PyProof.Rows.boot_isinstance))) (fun _ => w_or1 (t_neI (x_len T.f_len b PySem.boot_len (x_var 1)) x_int))).pt ?_ ?_)
    · intro h
      have h : true = (!(b || !b) || !decide (((l.map PyData.int).length : Int) = 3)) := h
      refine s_one (s_raise (i_BadDirection T) hr (takes_of rfl rfl rfl rfl) rfl x_str ?_)
      show rzO K _ (dirR (.int f) l) = _
      rw [ed, if_neg (by
        intro z
        rw [List.length_map, z] at h
        cases b <;> cases h)]
      rfl
    · intro h
      have h : false = (!(b || !b) || !decide (((l.map PyData.int).length : Int) = 3)) := h
      have hl : l.length = 3 := by
        have q : decide (((l.map PyData.int).length : Int) = 3) = true := by
          cases q : decide (((l.map PyData.int).length : Int) = 3) with
          | true => rfl
          | false =>
            rw [q] at h
            cases b <;> cases h
        have := of_decide_eq_true q
        rw [List.length_map] at this
        omega
      rw [if_pos hl] at ed
      refine s_nil (s_cons (s_for 2 (fun i G => ∃ o2, G = [some (.v (.d (.int f))), some (.v (.d (seqD b (l.map PyData.int)))), o2, none, none]) (passes_of rfl) rfl (wlk_sq b) sc_check_direction.nd (p_sq b (x_var 1)) ?_ ?_ ?_ ?_))
      · intro i G hG
        obtain ⟨o2, rfl⟩ := hG
        exact Nat.le_of_ble_eq_true rfl
      · exact ⟨none, rfl⟩
      · intro i G hi hG
        obtain ⟨o2, rfl⟩ := hG
        have q := hB _ (getD_mem hi)
        refine s_one (s_if (t_not (t_v (x_call (c_wholeD T) hr (_, _, _) (xa_cons (x_var 2) (xa_cons (x_neg (x_glob (r := .d (.int 10000)) hms (v := .int 10000) ⟨t0, rfl⟩ (fun _ => Dp.int _))) (xa_cons (x_glob (r := .d (.int 10000)) hms (v := .int 10000) ⟨t0, rfl⟩ (fun _ => Dp.int _)) xa_nil))) (by trivial)))) ?_ ?_)
        · intro h
          exfalso
          have h : true = !(decide (-10000 ≤ l.getD i 0) && decide (l.getD i 0 ≤ 10000)) := h
          rw [decide_eq_true q.1, decide_eq_true q.2] at h
          cases h
        · intro h
          exact s_nil ⟨_, rfl⟩
      · intro G hG
        obtain ⟨o2, rfl⟩ := hG
        refine s_cons (s_if (t_neI (x_ix (x_var 1) (x_fdiv (x_var 0) x_int (by walk_at "div")) (by exact ix_sq b (by omega) (by omega))) x_int) ?_ ?_)
        · intro h
          have h : true = !decide (gi l (f / 2) = 0) := h
          refine s_one (s_raise (i_BadDirection T) hr (takes_of rfl rfl rfl rfl) rfl x_str ?_)
          show rzO K _ (dirR (.int f) l) = _
          rw [ed, if_neg (by
            intro z
            rw [decide_eq_true z] at h
            cases h)]
          rfl
        · intro h
          have h : false = !decide (gi l (f / 2) = 0) := h
          rw [if_pos (by
            cases q : decide (gi l (f / 2) = 0) with
            | true => exact of_decide_eq_true q
            | false =>
              rw [q] at h
              cases h)] at ed
          refine s_nil (s_cons (s_unpack [3, 4] rfl (x_call (c_framed T) hr (_, b, _) (xa_cons (x_var 0) (xa_cons (x_var 1) xa_nil)) (by exact ⟨h0, by omega, hl⟩)) (show PGs _ _ (gNs [3, 4]) from (pgs_cons (pg_name (i := 3) sc_check_direction.nd rfl (Or.inl rfl)) (pgs_cons (pg_name (i := 4) sc_check_direction.nd rfl (Or.inl rfl)) pgs_nil))) ?_))
          refine s_cons (s_if (w_and (t_eqI (x_var 3) x_int) (fun _ => w_and1 (t_eqI (x_var 4) x_int))).pt ?_ ?_)
          · intro h
            have h : true = (decide (gi l (a1 f) = 0) && decide (gi l (a2 f) = 0)) := h
            have h := He.ba h.symm
            refine s_one (s_raise (i_BadDirection T) hr (takes_of rfl rfl rfl rfl) rfl x_str ?_)
            show rzO K _ (dirR (.int f) l) = _
            rw [ed, if_pos ⟨of_decide_eq_true h.1, of_decide_eq_true h.2⟩]
            rfl
          · intro h
            have h : false = (decide (gi l (a1 f) = 0) && decide (gi l (a2 f) = 0)) := h
            rw [if_neg (by
              intro z
              rw [decide_eq_true z.1, decide_eq_true z.2] at h
              cases h)] at ed
            refine s_nil (s_cons (s_if (t_neI (x_gcd T.gcd (x_var 3) (x_var 4)) x_int) ?_ ?_))
            · intro h
              have h : true = !decide (((Nat.gcd (gi l (a1 f)).natAbs (gi l (a2 f)).natAbs : Nat) : Int) = 1) := h
              refine s_one (s_raise (i_BadDirection T) hr (takes_of rfl rfl rfl rfl) rfl x_str ?_)
              show rzO K _ (dirR (.int f) l) = _
              rw [ed, if_neg (by
                intro z
                rw [z] at h
                cases h)]
              rfl
            · intro h
              have h : false = !decide (((Nat.gcd (gi l (a1 f)).natAbs (gi l (a2 f)).natAbs : Nat) : Int) = 1) := h
              refine s_nil (s_one (s_ret (x_tupS T.f_tuple b PyProof.Rows.boot_tuple (x_var 1)) ?_))
              show rzO K _ (dirR (.int f) l) = _
              rw [ed, if_pos (by
                cases q : decide (((Nat.gcd (gi l (a1 f)).natAbs (gi l (a2 f)).natAbs : Nat) : Int) = 1) with
                | true =>
                  have := of_decide_eq_true q
                  omega
                | false =>
                  rw [q] at h
                  cases h)]
              rfl
  · have ed : dirR x l = .no "BadFace" "face" x := if_neg hw
    refine s_cons (s_exprX (x_callX (c_check_faceX T) hr _ (C := He.ga K "BadFace") (f := "face") (y := x) (passes_call (takes_of rfl rfl rfl rfl) (fun _ _ _ _ h => h)) (xa_cons (x_var 0) xa_nil) (by trivial) (by show rzO K VD.d (faceR x) = _; unfold faceR; rw [if_neg hw]; rfl)) ?_)
    show rzO K _ (dirR x l) = _
    rw [ed]
    rfl
end
end K27
set_option maxHeartbeats 4000000
/-! The defs, one by one: check_strip, strip_after, strip_before. -/
namespace K27
open PySem PySem.Spec PyProof.Rows L2
local macro_rules | `(tactic| walk_at "c") => `(tactic| first | trivial | assumption | (dsimp only; (repeat' apply And.intro) <;> first | assumption | trivial | omega) | ((repeat' apply And.intro) <;> first | assumption | trivial | omega))
local macro_rules | `(tactic| walk_at "ix") => `(tactic| (try dsimp only); first | exact ix_ti (by omega) (by omega) | exact ix_li (by omega) (by omega) | exact ix_frames (by omega) (by omega) | rfl)
local macro_rules | `(tactic| walk_at "sx") => `(tactic| (try dsimp only); exact ixN_of (by omega) (by first | omega | (simp only [List.length_set, List.length_map, List.length_cons, List.length_nil]; omega)))
local macro_rules | `(tactic| walk_at "div") => `(tactic| (try dsimp only); first | exact ⟨by omega, by omega⟩ | omega)
local macro_rules | `(tactic| walk_at "mul") => `(tactic| (try dsimp only); first | exact .inl ⟨by omega, by omega⟩ | exact .inr ⟨by omega, by omega⟩)
theorem dirR_ok {x : PyData} {l l' : List Int} (h : dirR x l = .ok l') : wholeD x 0 5 = true ∧ x = .int (intD x) ∧ 0 ≤ intD x ∧ intD x < 6 ∧ l' = l ∧ l.length = 3 ∧ gi l (intD x / 2) = 0 := by
  unfold dirR at h
  by_cases hw : wholeD x 0 5 = true
  · rw [if_pos hw] at h
    obtain ⟨e1, h0, h5⟩ := wholeD_int hw
    by_cases hl : l.length = 3
    · rw [if_pos hl] at h
      by_cases hz : gi l (intD x / 2) = 0
      · rw [if_pos hz] at h
        refine ⟨hw, e1, h0, by omega, ?_, hl, hz⟩
        unfold badD at h
        split at h
        · cases h
        · split at h
          · exact (Rz.ok.inj h).symm
          · cases h
      · rw [if_neg hz] at h
        cases h
    · rw [if_neg hl] at h
      cases h
  · rw [if_neg hw] at h
    cases h
theorem rz_cases {α : Type} (r : Rz α) : (∃ c f z, r = .no c f z) ∨ ∃ a, r = .ok a := by
  cases r with
  | no c f z => exact .inl ⟨c, f, z, rfl⟩
  | ok a => exact .inr ⟨a, rfl⟩
theorem op_cases {α : Type} (r : Option α) : r = none ∨ ∃ a, r = some a := by
  cases r with
  | none => exact .inl rfl
  | some a => exact .inr ⟨a, rfl⟩
def rngR (s : List Int) (x : PyData) (l : List Int) : Rz (Int × Int) := match dirR x l with
  | .ok l' => .ok (lstMin (rngL s (intD x) l'), lstMax (rngL s (intD x) l'))
  | .no c f y => .no c f y
def ckR (s : List Int) (fd lo hi : PyData) (l : List Int) : Rz (Int × List Int × Int × Int) := match dirR fd l with
  | .no c f x => .no c f x
  | .ok l' => if wholeD lo (lstMin (rngL s (intD fd) l')) (lstMax (rngL s (intD fd) l') - 1) = true then (if wholeD hi (intD lo + 1) (lstMax (rngL s (intD fd) l')) = true then .ok (intD fd, l', intD lo, intD hi) else .no "BadStrip" "what" (.str "high")) else .no "BadStrip" "what" (.str "low")
def stR (K : PySem.W.Frag) (r : Int × List Int × Int × Int) : VD := stV K (.int r.1) (ti r.2.1) (.int r.2.2.1) (.int r.2.2.2)
def aftV (K : PySem.W.Frag) (s : List Int) (r : Int × List Int × Int × Int) : VD := match onwM s r.1 r.2.1 r.2.2.1 r.2.2.2 with
  | none => spV K (.int (splC r.1 r.2.1))
  | some z => onwV K (some z)
def befV (K : PySem.W.Frag) (s : List Int) (r : Int × List Int × Int × Int) : VD := match onwM s r.1 (negL r.2.1) (-r.2.2.2) (-r.2.2.1) with
  | none => spV K (.int (splC r.1 (negL r.2.1)))
  | some (b, d, lo, hi) => stV K (.int b) (ti (negL d)) (.int (-hi)) (.int (-lo))
theorem besidesL_ne {f : Int} (h0 : 0 ≤ f) (h6 : f < 6) : 0 < (besidesL f).length := by
  rcases six h0 h6 with rfl | rfl | rfl | rfl | rfl | rfl <;> decide
theorem rngL_ne {s : List Int} {f : Int} {d : List Int} (h0 : 0 ≤ f) (h6 : f < 6) : rngL s f d ≠ [] := by
  intro z
  have := congrArg List.length z
  unfold rngL at this
  rw [endsL_len] at this
  have := besidesL_ne h0 h6
  simp only [List.length_nil] at *
  omega
theorem onwM_b {s : List Int} {f : Int} {d : List Int} {lo hi : Int} {z : Int × List Int × Int × Int} (h : onwM s f d lo hi = some z) : ∃ b ∈ leavL f d, onwT s f d lo hi b = some z := by
  unfold onwM at h
  generalize leavL f d = l at h
  induction l with
  | nil => cases h
  | cons b r ih =>
    unfold fstM at h
    cases q : onwT s f d lo hi b with
    | some x =>
      rw [q] at h
      exact ⟨b, List.mem_cons_self, by rw [q]; exact h⟩
    | none =>
      rw [q] at h
      obtain ⟨c, h1, h2⟩ := ih h
      exact ⟨c, List.mem_cons_of_mem _ h1, h2⟩
theorem onwM_len {s : List Int} {f : Int} {d : List Int} {lo hi : Int} {z : Int × List Int × Int × Int} (h : onwM s f d lo hi = some z) : z.2.1.length = d.length := by
  obtain ⟨b, _, h2⟩ := onwM_b h
  unfold onwT at h2
  split at h2
  · have e := Option.some.inj h2
    rw [← e]
    exact goneM_len
  · cases h2
theorem x_ifT {X : Cx} {M : Option Addr} {Γ : Gm} {a b c : Expr} {pos : Pos} {R : VD → Prop} (hc : PT X c (tDT (zx X M) Γ (fun k => k = true))) (ha : PE X a (tD (zx X M) Γ R)) : PE X (.IfExp c a b pos) (tD (zx X M) Γ R) := x_if hc (fun _ => ha) (fun h => by cases h)
theorem x_ifF {X : Cx} {M : Option Addr} {Γ : Gm} {a b c : Expr} {pos : Pos} {R : VD → Prop} (hc : PT X c (tDT (zx X M) Γ (fun k => k = false))) (hb : PE X b (tD (zx X M) Γ R)) : PE X (.IfExp c a b pos) (tD (zx X M) Γ R) := x_if hc (fun h => by cases h) (fun _ => hb)
section
variable {P : Program} {w : World} {K : PySem.W.Frag} {mg : Str → Option Value} {base : Heap} (T : Tx K mg)
include T
theorem c_sideways_range : CalX P w K mg base 7 "sideways_range" (spO P w K (ι := List Int × PyData × PyData × Bool × List Int) (fun i => [bxV K i.1, .d i.2.1, .d i.2.2.1]) (fun i => i.1.length = 3 ∧ (wholeD i.2.1 0 5 = true → i.2.2.1 = seqD i.2.2.2.1 (i.2.2.2.2.map PyData.int) ∧ Bd 10000 i.2.2.2.2)) (fun i => rzO K (fun r => .d (.tuple [.int r.1, .int r.2])) (rngR i.1 i.2.1 i.2.2.2.2))) := by
  obtain ⟨fd, F⟩ := T.D_sideways_range
  refine ⟨_, fd, _, fun_ex F sc_sideways_range (fun _ => rfl) (fun ⟨s', x, y, b, l⟩ cdv Ar outer s H E hC hr => ?_), T.g_sideways_range, F.kp, F.bindsN (ps := ["box", "face", "direction"]) fun _ _ _ _ _ _ us hl => match us, hl with | [_, _, _], _ => rfl⟩
  obtain ⟨h3, hC⟩ := hC
  dsimp only at h3 hC
  cases q : dirR x l with
  | no c f z =>
    refine s_cons (s_asgX (i := 3) sc_sideways_range.nd (x_callX (c_check_direction T) hr (_, _, b, l) (C := He.ga K c) (f := f) (y := z) (passes_call (takes_of rfl rfl rfl rfl) (fun _ _ _ _ h => h)) (xa_cons (x_var 1) (xa_cons (x_var 2) xa_nil)) (by exact hC) (by show rzO K _ (dirR x l) = _; rw [q]; rfl)) ?_)
    show rzO K _ (rngR s' x l) = _
    unfold rngR
    rw [q]
    rfl
  | ok l' =>
    obtain ⟨hw, e1, h0, h6, e2, hl, _⟩ := dirR_ok q
    obtain ⟨_, hB⟩ := hC hw
    subst e2
    have er : rngR s' x l' = .ok (lstMin (rngL s' (intD x) l'), lstMax (rngL s' (intD x) l')) := by
      unfold rngR
      rw [q]
    generalize ef : intD x = f at *
    subst e1
    refine s_cons (s_asg 3 sc_sideways_range.nd (x_callO (c_check_direction T) hr (_, _, b, l') (r := .d (ti l')) (xa_cons (x_var 1) (xa_cons (x_var 2) xa_nil)) (by exact hC) (by show rzO K _ (dirR _ l') = _; rw [q]; rfl)) ?_)
    refine s_cons (s_asgN 4 sc_sideways_range.nd (n_lst xp_nil) (fun _ e => ?_))
    subst e
    have lb : ∀ i, i < (besidesL f).length → 0 ≤ (besidesL f).getD i 0 ∧ (besidesL f).getD i 0 < 6 ∧ (besidesL f).getD i 0 / 2 ≠ f / 2 := fun i hi => besidesL_b (getD_mem hi)
    refine s_cons (s_for 5 (fun i G => ∃ o5, G = [some (.v (bxV K s')), some (.v (.d (.int f))), some (.v (.d y)), some (.v (.d (ti l'))), some (.mu ((endsL s' f l' ((besidesL f).take i)).map PyData.int)), o5]) (passes_of rfl) rfl wlk_ti sc_sideways_range.nd (p_tup (x_call (c_faces_beside T) hr _ (xa_cons (x_var 1) xa_nil) (by exact ⟨h0, h6⟩))) ?_ ?_ ?_ ?_)
    · intro i G hG
      obtain ⟨o5, rfl⟩ := hG
      exact Nat.le_of_ble_eq_true rfl
    · exact ⟨none, rfl⟩
    · intro i G hi hG
      obtain ⟨o5, rfl⟩ := hG
      obtain ⟨b0, b6, bn⟩ := lb i hi
      have hlen := endsL_len s' f l' ((besidesL f).take i)
      have := List.length_take_le i (besidesL f)
      have := besidesL_len f
      refine s_one (s_extT 4 (ds := (endsL s' f l' ((besidesL f).take i)).map PyData.int) (x_call (c_edge_ends T) hr (_, _, _, _) (xa_cons (x_var 0) (xa_cons (x_var 1) (xa_cons (x_var 5) (xa_cons (x_var 3) xa_nil)))) (by exact ⟨h3, h0, h6, b0, b6, bn, hl, hB⟩)) (by rw [List.length_map, hlen]; show 2 * ((besidesL f).take i).length + 2 ≤ 1000; omega) ?_)
      refine ⟨some (.v (.d (.int ((besidesL f).getD i 0)))), ?_⟩
      rw [take_next hi, endsL_app, List.map_append]
      rfl
    · intro G hG
      obtain ⟨o5, rfl⟩ := hG
      rw [List.take_length]
      refine s_freeze 4 (ds := (rngL s' f l').map PyData.int) ?_
      have ne := rngL_ne (s := s') (d := l') h0 h6
      refine s_one (s_ret (x_tup (xp_cons (x_minL T.f_min rfl (lstMin_mem ne) lstMin_le PyProof.Rows.boot_min (x_var 4)) (xp_cons (x_maxL T.f_max rfl (lstMax_mem ne) lstMax_le PyProof.Rows.boot_max (x_var 4)) xp_nil))) ?_)
      show rzO K _ (rngR s' (.int f) l') = _
      rw [er]
      rfl
theorem c_check_strip : CalX P w K mg base 8 "check_strip" (spO P w K (ι := List Int × PyData × PyData × PyData × PyData × Bool × List Int) (fun i => [bxV K i.1, stV K i.2.1 i.2.2.1 i.2.2.2.1 i.2.2.2.2.1]) (fun i => i.1.length = 3 ∧ (wholeD i.2.1 0 5 = true → i.2.2.1 = seqD i.2.2.2.2.2.1 (i.2.2.2.2.2.2.map PyData.int) ∧ Bd 10000 i.2.2.2.2.2.2)) (fun i => rzO K (stR K) (ckR i.1 i.2.1 i.2.2.2.1 i.2.2.2.2.1 i.2.2.2.2.2.2))) := by
  obtain ⟨fd, F⟩ := T.D_check_strip
  refine ⟨_, fd, _, fun_ex F sc_check_strip (fun _ => rfl) (fun ⟨s', x, y, lo, hi, b, l⟩ cdv Ar outer s H E hC hr => ?_), T.g_check_strip, F.kp, F.bindsN (ps := ["box", "strip"]) fun _ _ _ _ _ _ us hl => match us, hl with | [_, _], _ => rfl⟩
  obtain ⟨h3, hC⟩ := hC
  dsimp only at h3 hC
  cases q : dirR x l with
  | no c f z =>
    refine s_cons (s_asgX (i := 2) sc_check_strip.nd (x_callX (c_check_direction T) hr (_, _, b, l) (C := He.ga K c) (f := f) (y := z) (passes_call (takes_of rfl rfl rfl rfl) (fun _ _ _ _ h => h)) (xa_cons (x_fld (x_var 1) T.c_Strip T.n_Strip_face (by rfl)) (xa_cons (x_fld (x_var 1) T.c_Strip T.n_Strip_direction (by rfl)) xa_nil)) (by exact hC) (by show rzO K _ (dirR x l) = _; rw [q]; rfl)) ?_)
    show rzO K _ (ckR s' x lo hi l) = _
    unfold ckR
    rw [q]
    rfl
  | ok l' =>
    obtain ⟨hw, e1, h0, h6, e2, hl, _⟩ := dirR_ok q
    obtain ⟨_, hB⟩ := hC hw
    subst e2
    have er : rngR s' x l' = .ok (lstMin (rngL s' (intD x) l'), lstMax (rngL s' (intD x) l')) := by
      unfold rngR
      rw [q]
    have ec : ckR s' x lo hi l' = (if wholeD lo (lstMin (rngL s' (intD x) l')) (lstMax (rngL s' (intD x) l') - 1) = true then (if wholeD hi (intD lo + 1) (lstMax (rngL s' (intD x) l')) = true then .ok (intD x, l', intD lo, intD hi) else .no "BadStrip" "what" (.str "high")) else .no "BadStrip" "what" (.str "low")) := by
      unfold ckR
      rw [q]
    generalize ef : intD x = f at *
    subst e1
    generalize em : lstMin (rngL s' f l') = least at *
    generalize eM : lstMax (rngL s' f l') = greatest at *
    refine s_cons (s_asg 2 sc_check_strip.nd (x_callO (c_check_direction T) hr (_, _, b, l') (r := .d (ti l')) (xa_cons (x_fld (x_var 1) T.c_Strip T.n_Strip_face (by rfl)) (xa_cons (x_fld (x_var 1) T.c_Strip T.n_Strip_direction (by rfl)) xa_nil)) (by exact hC) (by show rzO K _ (dirR _ l') = _; rw [q]; rfl)) ?_)
    refine s_cons (s_unpack [3, 4] rfl (x_callO (c_sideways_range T) hr (_, _, _, false, l') (r := .d (.tuple [.int least, .int greatest])) (xa_cons (x_var 0) (xa_cons (x_fld (x_var 1) T.c_Strip T.n_Strip_face (by rfl)) (xa_cons (x_var 2) xa_nil))) (by exact ⟨h3, fun _ => ⟨rfl, hB⟩⟩) (by show rzO K _ (rngR s' _ l') = _; rw [er]; rfl)) (show PGs _ _ (gNs [3, 4]) from (pgs_cons (pg_name (i := 3) sc_check_strip.nd rfl (Or.inl rfl)) (pgs_cons (pg_name (i := 4) sc_check_strip.nd rfl (Or.inl rfl)) pgs_nil))) ?_)
    refine s_cons (s_if (t_not (t_v (x_call (c_wholeD T) hr (_, _, _) (xa_cons (x_fld (x_var 1) T.c_Strip T.n_Strip_low (by rfl)) (xa_cons (x_var 3) (xa_cons (x_sub (x_var 4) x_int) xa_nil))) (by trivial)))) ?_ ?_)
    · intro h
      have h : true = !wholeD lo least (greatest - 1) := h
      refine s_one (s_raise (i_BadStrip T) hr (takes_of rfl rfl rfl rfl) rfl x_str ?_)
      show rzO K _ (ckR s' _ lo hi l') = _
      rw [ec, if_neg (by intro z; rw [z] at h; cases h)]
      rfl
    · intro h
      have h : false = !wholeD lo least (greatest - 1) := h
      have hlo : wholeD lo least (greatest - 1) = true := by
        cases q : wholeD lo least (greatest - 1) with
        | true => rfl
        | false =>
          rw [q] at h
          cases h
      rw [if_pos hlo] at ec
      obtain ⟨e3, _, _⟩ := wholeD_int hlo
      generalize eg : intD lo = lo' at *
      subst e3
      refine s_nil (s_cons (s_if (t_not (t_v (x_call (c_wholeD T) hr (_, _, _) (xa_cons (x_fld (x_var 1) T.c_Strip T.n_Strip_high (by rfl)) (xa_cons (x_add (x_fld (x_var 1) T.c_Strip T.n_Strip_low (by rfl)) x_int) (xa_cons (x_var 4) xa_nil))) (by trivial)))) ?_ ?_))
      · intro h
        have h : true = !wholeD hi (lo' + 1) greatest := h
        refine s_one (s_raise (i_BadStrip T) hr (takes_of rfl rfl rfl rfl) rfl x_str ?_)
        show rzO K _ (ckR s' _ _ hi l') = _
        rw [ec, if_neg (by intro z; rw [z] at h; cases h)]
        rfl
      · intro h
        have h : false = !wholeD hi (lo' + 1) greatest := h
        have hhi : wholeD hi (lo' + 1) greatest = true := by
          cases q : wholeD hi (lo' + 1) greatest with
          | true => rfl
          | false =>
            rw [q] at h
            cases h
        rw [if_pos hhi] at ec
        obtain ⟨e4, _, _⟩ := wholeD_int hhi
        generalize eh : intD hi = hi' at *
        subst e4
        refine s_nil (s_one (s_ret (x_make (k_Strip T) hr (xp_cons (x_fld (x_var 1) T.c_Strip T.n_Strip_face (by rfl)) (xp_cons (x_var 2) (xp_cons (x_fld (x_var 1) T.c_Strip T.n_Strip_low (by rfl)) (xp_cons (x_fld (x_var 1) T.c_Strip T.n_Strip_high (by rfl)) xp_nil))))) ?_))
        show rzO K _ (ckR s' _ _ _ l') = _
        rw [ec]
        rfl
omit T in
theorem ckR_ok {s : List Int} {fd lo hi : PyData} {l : List Int} {r : Int × List Int × Int × Int} (h : ckR s fd lo hi l = .ok r) : wholeD fd 0 5 = true ∧ 0 ≤ r.1 ∧ r.1 < 6 ∧ r.2.1 = l ∧ l.length = 3 := by
  unfold ckR at h
  cases q : dirR fd l with
  | no c f z =>
    rw [q] at h
    cases h
  | ok l' =>
    rw [q] at h
    obtain ⟨hw, e1, h0, h6, e2, hl, _⟩ := dirR_ok q
    subst e2
    dsimp only at h
    split at h
    · split at h
      · have e := (Rz.ok.inj h).symm
        subst e
        exact ⟨hw, h0, h6, rfl, hl⟩
      · cases h
    · cases h
theorem c_strip_after : CalX P w K mg base 9 "strip_after" (spO P w K (ι := List Int × PyData × PyData × PyData × PyData × Bool × List Int) (fun i => [bxV K i.1, stV K i.2.1 i.2.2.1 i.2.2.2.1 i.2.2.2.2.1]) (fun i => i.1.length = 3 ∧ (wholeD i.2.1 0 5 = true → i.2.2.1 = seqD i.2.2.2.2.2.1 (i.2.2.2.2.2.2.map PyData.int) ∧ Bd 10000 i.2.2.2.2.2.2)) (fun i => rzO K (aftV K i.1) (ckR i.1 i.2.1 i.2.2.2.1 i.2.2.2.2.1 i.2.2.2.2.2.2))) := by
  obtain ⟨fd, F⟩ := T.D_strip_after
  refine ⟨_, fd, _, fun_ex F sc_strip_after (fun _ => rfl) (fun ⟨s', x, y, lo, hi, b, l⟩ cdv Ar outer s H E hC hr => ?_), T.g_strip_after, F.kp, F.bindsN (ps := ["box", "strip"]) fun _ _ _ _ _ _ us hl => match us, hl with | [_, _], _ => rfl⟩
  obtain ⟨h3, hC⟩ := hC
  dsimp only at h3 hC
  rcases rz_cases (ckR s' x lo hi l) with ⟨c, f, z, q⟩ | ⟨⟨f, d, lo', hi'⟩, q⟩
  · have hz : True := trivial
    refine s_cons (s_asgX (i := 2) sc_strip_after.nd (x_callX (c_check_strip T) hr (_, _, _, _, _, b, l) (C := He.ga K c) (f := f) (y := z) (passes_call (takes_of rfl rfl rfl rfl) (fun _ _ _ _ h => h)) (xa_cons (x_var 0) (xa_cons (x_var 1) xa_nil)) (by exact ⟨h3, hC⟩) (by show rzO K _ (ckR s' x lo hi l) = _; rw [q]; rfl)) ?_)
    show rzO K _ (ckR s' x lo hi l) = _
    rw [q]
    rfl
  · obtain ⟨hw, h0, h6, e2, hl⟩ := ckR_ok q
    obtain ⟨_, hB⟩ := hC hw
    dsimp only at h0 h6 e2
    subst e2
    refine s_cons (s_asg 2 sc_strip_after.nd (x_callO (c_check_strip T) hr (_, _, _, _, _, b, d) (r := stR K (f, d, lo', hi')) (xa_cons (x_var 0) (xa_cons (x_var 1) xa_nil)) (by exact ⟨h3, hC⟩) (by show rzO K _ (ckR s' x lo hi d) = _; rw [q]; rfl)) ?_)
    refine s_cons (s_asg 3 sc_strip_after.nd (x_call (c_onward T) hr (_, _, _, _, _) (xa_cons (x_var 0) (xa_cons (x_var 2) xa_nil)) (by exact ⟨h3, h0, h6, hl, hB⟩)) ?_)
    have goal : ∀ v, v = aftV K s' (f, d, lo', hi') → PFO (rzO K (aftV K s') (ckR s' x lo hi d)) (.rt v) := fun v e => by
      rw [q, e]
      rfl
    rcases op_cases (onwM s' f d lo' hi') with qo | ⟨z, qo⟩
    · have e : aftV K s' (f, d, lo', hi') = spV K (.int (splC f d)) := by
        show (match onwM s' f d lo' hi' with | none => _ | some z => _) = _
        rw [qo]
      refine s_one (s_ret (x_ifT (tdt_mono (t_isN (x_var 3)) (fun k h => by
        have h : k = isN (onwV K (onwM s' f d lo' hi')) := h
        rw [qo] at h
        exact h)) (x_call (c_split_ahead T) hr (_, _, _, _) (xa_cons (x_var 2) xa_nil) (by exact ⟨h0, h6, hl⟩))) (goal _ e.symm))
    · have e : aftV K s' (f, d, lo', hi') = onwV K (onwM s' f d lo' hi') := by
        show (match onwM s' f d lo' hi' with | none => _ | some z => _) = _
        rw [qo]
      refine s_one (s_ret (x_ifF (tdt_mono (t_isN (x_var 3)) (fun k h => by
        have h : k = isN (onwV K (onwM s' f d lo' hi')) := h
        rw [qo] at h
        obtain ⟨b, d2, lo2, hi2⟩ := z
        exact h)) (x_var 3)) (goal _ e.symm))
theorem c_strip_before : CalX P w K mg base 9 "strip_before" (spO P w K (ι := List Int × PyData × PyData × PyData × PyData × Bool × List Int) (fun i => [bxV K i.1, stV K i.2.1 i.2.2.1 i.2.2.2.1 i.2.2.2.2.1]) (fun i => i.1.length = 3 ∧ (wholeD i.2.1 0 5 = true → i.2.2.1 = seqD i.2.2.2.2.2.1 (i.2.2.2.2.2.2.map PyData.int) ∧ Bd 10000 i.2.2.2.2.2.2)) (fun i => rzO K (befV K i.1) (ckR i.1 i.2.1 i.2.2.2.1 i.2.2.2.2.1 i.2.2.2.2.2.2))) := by
  obtain ⟨fd, F⟩ := T.D_strip_before
  refine ⟨_, fd, _, fun_ex F sc_strip_before (fun _ => rfl) (fun ⟨s', x, y, lo, hi, b, l⟩ cdv Ar outer s H E hC hr => ?_), T.g_strip_before, F.kp, F.bindsN (ps := ["box", "strip"]) fun _ _ _ _ _ _ us hl => match us, hl with | [_, _], _ => rfl⟩
  obtain ⟨h3, hC⟩ := hC
  dsimp only at h3 hC
  rcases rz_cases (ckR s' x lo hi l) with ⟨c, f, z, q⟩ | ⟨⟨f, d, lo', hi'⟩, q⟩
  · have hz : True := trivial
    refine s_cons (s_asgX (i := 2) sc_strip_before.nd (x_callXA (c_turned_back T) hr (xa_X (x_callX (c_check_strip T) hr (_, _, _, _, _, b, l) (C := He.ga K c) (f := f) (y := z) (passes_call (takes_of rfl rfl rfl rfl) (fun _ _ _ _ h => h)) (xa_cons (x_var 0) (xa_cons (x_var 1) xa_nil)) (by exact ⟨h3, hC⟩) (by show rzO K _ (ckR s' x lo hi l) = _; rw [q]; rfl)))) ?_)
    show rzO K _ (ckR s' x lo hi l) = _
    rw [q]
    rfl
  · obtain ⟨hw, h0, h6, e2, hl⟩ := ckR_ok q
    obtain ⟨_, hB⟩ := hC hw
    dsimp only at h0 h6 e2
    subst e2
    have nl : (negL d).length = 3 := by rw [negL_len]; exact hl
    have nB : Bd 10000 (negL d) := hB.neg
    refine s_cons (s_asg 2 sc_strip_before.nd (x_call (c_turned_back T) hr (_, _, _, _) (xa_cons (x_callO (c_check_strip T) hr (_, _, _, _, _, b, d) (r := stR K (f, d, lo', hi')) (xa_cons (x_var 0) (xa_cons (x_var 1) xa_nil)) (by exact ⟨h3, hC⟩) (by show rzO K _ (ckR s' x lo hi d) = _; rw [q]; rfl)) xa_nil) (by exact hl)) ?_)
    refine s_cons (s_asg 3 sc_strip_before.nd (x_call (c_onward T) hr (s', f, negL d, -hi', -lo') (xa_cons (x_var 0) (xa_cons (x_var 2) xa_nil)) (by exact ⟨h3, h0, h6, nl, nB⟩)) ?_)
    have goal : ∀ v, v = befV K s' (f, d, lo', hi') → PFO (rzO K (befV K s') (ckR s' x lo hi d)) (.rt v) := fun v e => by
      rw [q, e]
      rfl
    rcases op_cases (onwM s' f (negL d) (-hi') (-lo')) with qo | ⟨⟨b', d2, lo2, hi2⟩, qo⟩
    · have e : befV K s' (f, d, lo', hi') = spV K (.int (splC f (negL d))) := by
        unfold befV
        rw [qo]
      refine s_one (s_ret (x_ifT (tdt_mono (t_isN (x_var 3)) (fun k h => by
        have h : k = isN (onwV K (onwM s' f (negL d) (-hi') (-lo'))) := h
        rw [qo] at h
        exact h)) (x_call (c_split_ahead T) hr (f, negL d, -hi', -lo') (xa_cons (x_var 2) xa_nil) (by exact ⟨h0, h6, nl⟩))) (goal _ e.symm))
    · have e : befV K s' (f, d, lo', hi') = stV K (.int b') (ti (negL d2)) (.int (-hi2)) (.int (-lo2)) := by
        unfold befV
        rw [qo]
      have l2 : d2.length = 3 := (onwM_len qo).trans nl
      refine s_one (s_ret (x_ifF (tdt_mono (t_isN (x_var 3)) (fun k h => by
        have h : k = isN (onwV K (onwM s' f (negL d) (-hi') (-lo'))) := h
        rw [qo] at h
        exact h)) (x_call (c_turned_back T) hr (b', d2, lo2, hi2) (xa_cons (x_eq (x_var 3) (by show onwV K (onwM s' f (negL d) (-hi') (-lo')) = _; rw [qo]; rfl)) xa_nil) (by exact l2))) (goal _ e.symm))
theorem c_lane_of_strip : CalX P w K mg base 9 "lane_of_strip" (spO P w K (ι := List Int × PyData × PyData × PyData × PyData × Bool × List Int) (fun i => [bxV K i.1, stV K i.2.1 i.2.2.1 i.2.2.2.1 i.2.2.2.2.1]) (fun i => i.1.length = 3 ∧ (wholeD i.2.1 0 5 = true → i.2.2.1 = seqD i.2.2.2.2.2.1 (i.2.2.2.2.2.2.map PyData.int) ∧ Bd 10000 i.2.2.2.2.2.2) ∧ ∃ c f z, ckR i.1 i.2.1 i.2.2.2.1 i.2.2.2.2.1 i.2.2.2.2.2.2 = .no c f z) (fun i => rzO K (stR K) (ckR i.1 i.2.1 i.2.2.2.1 i.2.2.2.2.1 i.2.2.2.2.2.2))) := by
  obtain ⟨fd, F⟩ := T.D_lane_of_strip
  refine ⟨_, fd, _, fun_ex F sc_lane_of_strip (fun _ => rfl) (fun ⟨s', x, y, lo, hi, b, l⟩ cdv Ar outer s H E hC hr => ?_), T.g_lane_of_strip, F.kp, F.bindsN (ps := ["box", "strip"]) fun _ _ _ _ _ _ us hl => match us, hl with | [_, _], _ => rfl⟩
  obtain ⟨h3, hC, c, f, z, q⟩ := hC
  dsimp only at h3 hC q
  refine s_cons (s_asgX (i := 2) sc_lane_of_strip.nd (x_callX (c_check_strip T) hr (_, _, _, _, _, b, l) (C := He.ga K c) (f := f) (y := z) (passes_call (takes_of rfl rfl rfl rfl) (fun _ _ _ _ h => h)) (xa_cons (x_var 0) (xa_cons (x_var 1) xa_nil)) (by exact ⟨h3, hC⟩) (by show rzO K _ (ckR s' x lo hi l) = _; rw [q]; rfl)) ?_)
  show rzO K _ (ckR s' x lo hi l) = _
  rw [q]
  rfl
end
end K27
set_option maxHeartbeats 4000000
/-! Own equality, and the box. -/
namespace K27
open PySem PySem.Spec PyProof.Rows L2
local macro_rules | `(tactic| walk_at "c") => `(tactic| first | trivial | assumption | (dsimp only; (repeat' apply And.intro) <;> first | assumption | trivial | omega) | ((repeat' apply And.intro) <;> first | assumption | trivial | omega))
local macro_rules | `(tactic| walk_at "ix") => `(tactic| (try dsimp only); first | exact ix_ti (by omega) (by omega) | exact ix_li (by omega) (by omega) | exact ix_frames (by omega) (by omega) | rfl)
local macro_rules | `(tactic| walk_at "sx") => `(tactic| (try dsimp only); exact ixN_of (by omega) (by first | omega | (simp only [List.length_set, List.length_map, List.length_cons, List.length_nil]; omega)))
local macro_rules | `(tactic| walk_at "div") => `(tactic| (try dsimp only); first | exact ⟨by omega, by omega⟩ | omega)
local macro_rules | `(tactic| walk_at "mul") => `(tactic| (try dsimp only); first | exact .inl ⟨by omega, by omega⟩ | exact .inr ⟨by omega, by omega⟩)
structure EqC (P : Program) (w : World) (K : PySem.W.Frag) (mg : Str → Option Value) (base : Heap) (k : Nat) (f : Addr) (sp : Sp) : Prop where
  ex : ∃ fd ps, FnOk P w K mg base CX0 k f fd ps sp ∧ Binds K fd ps []
theorem ns_some {K : PySem.W.Frag} {h : Heap} {N : Addr} {mg : Str → Option Value} {n : Str} {v : Value} (X : K.In h) (G : h.Ns N mg) (e : PySem.W.nsIn K N n = some (some v)) : mg n = some v := by
  obtain ⟨o, es, ep, ho, hd, _, hf⟩ := G
  unfold PySem.W.nsIn at e
  split at e
  · rename_i c d es' n' sl q
    have z := X _ _ q
    rw [ho] at z
    cases z
    cases hd
    split at e
    · rename_i he
      cases e
      rw [← hf]
      unfold nsFind findBy
      rw [← Array.find?_toList, he]
      rfl
    · split at e <;> cases e
  · cases e
def rOwn {ι : Type} (P : Program) (w : World) (K : PySem.W.Frag) (C D : Addr) (A : ι → List VD) (Cc : ι → Prop) (R : ι → Bool) (g : Bool → Bool) : R2 := fun u v H Q => ∃ (i : ι) (B : Hp) (fs gs : List (Str × PyData)), Cc i ∧ Same B H ∧ VsOk ⟨P, w, K, none⟩ B [u, v] (A i) ∧ VOk ⟨P, w, K, none⟩ B u (.ob C fs) ∧ VOk ⟨P, w, K, none⟩ B v (.ob D gs) ∧ ∀ B' H', Gr none B H B' H' → Q (.bl (g (R i))) H'
theorem run_eq {X : Cx} {ι : Type} {A : ι → List VD} {Cc : ι → Prop} {R : ι → Bool} {k : Nat} {f : Addr} {A0 : Around} (cl : EqC X.prog X.w X.K X.mg X.base k f (spP X.prog X.w X.K A Cc (fun i => .d (.bool (R i))))) (hr : Room k A0) (hfr : A0.frames = X.A.frames)
    {pins : List (Addr × Obj)} {s : Shared} {σ : L2.St} {H : Hp} (I : Inv X pins σ H s) {a b : Addr} {i : ι} {B : Hp} (hC : Cc i) (hs : Same B H) (hv : VsOk ⟨X.prog, X.w, X.K, none⟩ B [.ref a, .ref b] (A i)) {Q : Value → Shared → Prop}
    (q : ∀ s' B' H', Gr none B H B' H' → Inv X pins σ H' s' → Q (.bool (R i)) s') : wpAny (model X.prog X.w) A0 (call (.ref f) [.ref a, .ref b]) Q X.xe s := by
  obtain ⟨fd, ps, F, hb⟩ := cl.ex
  have hsp : spP X.prog X.w X.K A Cc (fun i => .d (.bool (R i))) [.ref a, .ref b] H (fun v H' => v = .bl (R i) ∧ ∃ B', Gr none B H B' H') (fun _ _ _ => False) := ⟨i, B, hC, hs, hv, fun v B' H' g hv => ⟨dpb hv, B', g⟩⟩
  have e0 : Env0 X.prog X.w X.K X.mg X.base A0 X.stack s H := by
    have e := I.env0
    exact ⟨by rw [hfr]; exact e.frames, e.mod, e.bs, e.bsz, e.funs, e.frf, e.hok, e.bare⟩
  have hl := F.len _ _ _ _ hsp
  have r2 : Vals [V.ref a, V.ref b] [Value.ref a, Value.ref b] := .cons rfl (.cons rfl .nil)
  refine wpAny_call (codeAny_mono (F.run A0 X.stack s H ⟨[.ref a, .ref b], []⟩ [.ref a, .ref b] [.ref a, .ref b] _ _ hr e0 (by
    have := hb s [.ref a, .ref b] I.kIn (by simpa using hl)
    simpa using this) r2 hsp) fun r s' hq => ?_)
  cases r with
  | error e => exact (show Passes CX0 X (fun _ _ _ => False) from pass0) pins σ H s e s' I hq
  | ok fl =>
    cases fl with
    | ret w =>
      obtain ⟨z, H', I', rz, ez, B', g⟩ := I.after hq
      subst ez
      cases rz
      exact q s' B' H' g I'
    | next => exact False.elim hq
    | brk => exact False.elim hq
    | cont => exact False.elim hq
theorem op_eqO {X : Cx} {ι : Type} {A : ι → List VD} {Cc : ι → Prop} {R : ι → Bool} {k j : Nat} {f C D : Addr} (cl : EqC X.prog X.w X.K X.mg X.base k f (spP X.prog X.w X.K A Cc (fun i => .d (.bool (R i))))) (m : Meth X.K C "__eq__" f) (hn : PySem.W.notFirst X.K C (.ref D) = true) (hr : Room j X.A) (hk : k ≤ j) : OpR X (compareOp .Eq) (rOwn X.prog X.w X.K C D A Cc R id) := by
  intro pins s σ H x y v u Q I rx ry h
  obtain ⟨i, B, fs, gs, hC, hs, hv, ⟨a, dx, vs, rfl, h1, _⟩, ⟨b, dy, ws, rfl, h2, _⟩, q⟩ := h
  cases rx
  cases ry
  obtain ⟨mA, J, _⟩ := ins_get I.hok (hs _ _ h1)
  obtain ⟨mB, J', _⟩ := ins_get I.hok (hs _ _ h2)
  obtain ⟨od, J, _⟩ := J.look
  obtain ⟨od', J', _⟩ := J'.look
  obtain ⟨mm, hF⟩ := I.fr
  show wpAny _ _ (richCompare .Eq (.ref a) (.ref b)) _ _ _
  refine PySem.W.cmp_K (op := .Eq) (tb := .ref D) (hr.mono hk).units0 hF I.ok.mod.kin J J'.type hn m.at_ m.fn ?_
  exact run_eq cl (hr.mono hk) rfl I hC hs hv fun s' B' H' g I' => ⟨.bl (R i), H', I', rfl, q B' H' g⟩
theorem objB_ok {K : PySem.W.Frag} {x : Str} (h : objB K x = true) {X : Heap} (hK : K.In X) {a f : Addr} {o of : Obj} (ho : X.get? a = some o) (hc : o.cls = .ref (He.ga K x)) (e : He.ma K (He.ga K x) "__eq__" = f) (hf : X.get? f = some of) (hfc : of.cls = .type "function") : X.OwnEqNoNe a (He.ga K x) f "object" [.type "object"] := by
  obtain ⟨nm, qn, N, bs, bm, sn, sub, ab, col, dd, k0, k1, k2, k3, k5, e1, e2, e3⟩ := clsB_ok h
  have e2 := of_decide_eq_true e2
  subst e2
  obtain ⟨n1, n2⟩ := He.ba e3
  obtain ⟨n2, n3⟩ := He.ba n2
  have hN : X.Ns N (X.nsMap N) := .of_isNs (PySem.W.isNs_of_in hK n1)
  have q1 := ns_some hK hN (He.eqO_ok n2)
  have q2 := PySem.W.nsMap_none_of_in hK n1 (He.eqO_ok n3)
  rw [e] at q1
  exact ⟨o, of, nm, qn, N, bs, true, sn, sub, ab, col, dd, k0, k1, k2, k3, k5, "object.__new__", X.nsMap N, _, ho, hc, hK _ _ e1, hN, q1, hf, hfc, PySem.F.cmp_object.mro, PySem.F.cmp_object.eq.lookup, q2⟩
theorem fn_at {K : PySem.W.Frag} {f : Addr} (h : PySem.W.isFn K (.ref f) = true) : ∃ o, K.lookup f = some o ∧ o.cls = .type "function" := by
  have h1 : (K.lookup f).map (·.cls) = some (.type "function") := eq_of_beq h
  cases q : K.lookup f with
  | none =>
    rw [q] at h1
    cases h1
  | some o =>
    rw [q] at h1
    exact ⟨o, rfl, Option.some.inj h1⟩
theorem op_neO {X : Cx} {ι : Type} {A : ι → List VD} {Cc : ι → Prop} {R : ι → Bool} {k j : Nat} {x : Str} (cl : EqC X.prog X.w X.K X.mg X.base k (He.ma X.K (He.ga X.K x) "__eq__") (spP X.prog X.w X.K A Cc (fun i => .d (.bool (R i))))) (m : Meth X.K (He.ga X.K x) "__eq__" (He.ma X.K (He.ga X.K x) "__eq__")) (ob : objB X.K x = true) (hr : Room j X.A) (hk : k + 1 ≤ j) :
    OpR X (compareOp .NotEq) (rOwn X.prog X.w X.K (He.ga X.K x) (He.ga X.K x) A Cc R not) := by
  intro pins s σ H u1 y v u Q I rx ry h
  obtain ⟨i, B, fs, gs, hC, hs, hv, ⟨a, dx, vs, rfl, h1, _⟩, ⟨b, dy, ws, rfl, h2, _⟩, q⟩ := h
  cases rx
  cases ry
  obtain ⟨mA, J, _⟩ := ins_get I.hok (hs _ _ h1)
  obtain ⟨mB, J', _⟩ := ins_get I.hok (hs _ _ h2)
  obtain ⟨od, J, _⟩ := J.look
  obtain ⟨od', J', _⟩ := J'.look
  obtain ⟨of, f1, f2⟩ := fn_at m.fn
  have X1 := objB_ok ob I.kIn J.1 J.2 rfl (I.kIn _ _ f1) f2
  have hr2 := hr.mono hk
  obtain ⟨hp, g, d, tk, os⟩ := s
  refine compareOp_ne_ownEq PySem.F.cmp_object X1 J'.1 J'.2 (by have := hr2.un; omega) ?_
  exact run_eq cl hr2.in1 rfl I hC hs hv fun s' B' H' g I' => ⟨R i, rfl, .bl (!R i), H', I', rfl, q B' H' g⟩
section
variable {X : Cx} {M : Option Addr} {Γ : Gm} {a b : Expr} {pos : Pos} {ι : Type} {A : ι → List VD} {Cc : ι → Prop} {R : ι → Bool} {k j : Nat}
theorem rd_own {C D : Addr} {fs gs : List (Str × PyData)} {g : Bool → Bool} (i : ι) (hA : A i = [.ob C fs, .ob D gs]) (hC : Cc i) : RD (zx X M) (rOwn X.prog X.w X.K C D A Cc R g) (.ob C fs) (.ob D gs) (fun z => z = .d (.bool (g (R i)))) := fun B H u v Q hs hu hv q =>
  ⟨i, B, fs, gs, hC, hs, by rw [hA]; exact .cons (vok_m hu) (.cons (vok_m hv) .nil), vok_m hu, vok_m hv, fun B' H' g' => q _ _ B' H' rfl g' (Dp.bl _)⟩
theorem x_eqO {f C D : Addr} {fs gs : List (Str × PyData)} (cl : EqC X.prog X.w X.K X.mg X.base k f (spP X.prog X.w X.K A Cc (fun i => .d (.bool (R i))))) (m : Meth X.K C "__eq__" f) (hn : PySem.W.notFirst X.K C (.ref D) = true) (hr : Room j X.A) (i : ι) (ha : PE X a (tD (zx X M) Γ (fun y => y = .ob C fs))) (hb : PE X b (tD (zx X M) Γ (fun y => y = .ob D gs))) (hA : A i = [.ob C fs, .ob D gs]) (hC : Cc i) (hk : k ≤ j := by decide) :
    PE X (.Compare a [.Eq] [b] pos) (tD (zx X M) Γ (fun y => y = .d (.bool (R i)))) := x_cmp (op_eqO cl m hn hr hk) ha hb (nomark _) (det2 (rd_own i hA hC))
theorem t_eqO {f C D : Addr} {fs gs : List (Str × PyData)} (cl : EqC X.prog X.w X.K X.mg X.base k f (spP X.prog X.w X.K A Cc (fun i => .d (.bool (R i))))) (m : Meth X.K C "__eq__" f) (hn : PySem.W.notFirst X.K C (.ref D) = true) (hr : Room j X.A) (i : ι) (ha : PE X a (tD (zx X M) Γ (fun y => y = .ob C fs))) (hb : PE X b (tD (zx X M) Γ (fun y => y = .ob D gs))) (hA : A i = [.ob C fs, .ob D gs]) (hC : Cc i) (hk : k ≤ j := by decide) :
    PT X (.Compare a [.Eq] [b] pos) (tDT (zx X M) Γ (fun y => y = R i)) := t_cmp (op_eqO cl m hn hr hk) ha hb (nomark _) (det2 fun B H u v Q hs hu hv q => rd_own i hA hC B H u v Q hs hu hv fun w z B' H' hz g hw => q w z B' H' ⟨_, rfl, hz⟩ g hw)
theorem t_neO {x : Str} {fs gs : List (Str × PyData)} (cl : EqC X.prog X.w X.K X.mg X.base k (He.ma X.K (He.ga X.K x) "__eq__") (spP X.prog X.w X.K A Cc (fun i => .d (.bool (R i))))) (m : Meth X.K (He.ga X.K x) "__eq__" (He.ma X.K (He.ga X.K x) "__eq__")) (ob : objB X.K x = true) (hr : Room j X.A) (i : ι) (ha : PE X a (tD (zx X M) Γ (fun y => y = .ob (He.ga X.K x) fs))) (hb : PE X b (tD (zx X M) Γ (fun y => y = .ob (He.ga X.K x) gs))) (hA : A i = [.ob (He.ga X.K x) fs, .ob (He.ga X.K x) gs]) (hC : Cc i) (hk : k + 1 ≤ j := by decide) :
    PT X (.Compare a [.NotEq] [b] pos) (tDT (zx X M) Γ (fun y => y = !R i)) := t_cmp (op_neO cl m ob hr hk) ha hb (nomark _) (det2 fun B H u v Q hs hu hv q => rd_own i hA hC B H u v Q hs hu hv fun w z B' H' hz g hw => q w z B' H' ⟨_, rfl, hz⟩ g hw)
theorem x_neO {x : Str} {fs gs : List (Str × PyData)} (cl : EqC X.prog X.w X.K X.mg X.base k (He.ma X.K (He.ga X.K x) "__eq__") (spP X.prog X.w X.K A Cc (fun i => .d (.bool (R i))))) (m : Meth X.K (He.ga X.K x) "__eq__" (He.ma X.K (He.ga X.K x) "__eq__")) (ob : objB X.K x = true) (hr : Room j X.A) (i : ι) (ha : PE X a (tD (zx X M) Γ (fun y => y = .ob (He.ga X.K x) fs))) (hb : PE X b (tD (zx X M) Γ (fun y => y = .ob (He.ga X.K x) gs))) (hA : A i = [.ob (He.ga X.K x) fs, .ob (He.ga X.K x) gs]) (hC : Cc i) (hk : k + 1 ≤ j := by decide) :
    PE X (.Compare a [.NotEq] [b] pos) (tD (zx X M) Γ (fun y => y = .d (.bool (!R i)))) := x_cmp (op_neO cl m ob hr hk) ha hb (nomark _) (det2 (rd_own i hA hC))
end
section
variable {P : Program} {w : World} {K : PySem.W.Frag} {mg : Str → Option Value} {base : Heap} (T : Tx K mg)
include T
theorem Tx.ex2 : objB K "Strip" = true ∧ InsK K (He.ga K "Strip") ∧ InsK K (He.ga K "Split") ∧ PySem.W.kitOne K (.ref (He.ga K "Strip")) (.ref (He.ga K "Strip")) = some true ∧ PySem.W.kitOne K (.ref (He.ga K "Strip")) (.ref (He.ga K "Split")) = some false ∧
    PySem.W.kitOne K (.ref (He.ga K "Split")) (.ref (He.ga K "Strip")) = some false ∧ PySem.W.kitOne K (.ref (He.ga K "Split")) (.ref (He.ga K "Split")) = some true ∧ PySem.W.notFirst K (He.ga K "Strip") (.ref (He.ga K "Split")) = true ∧ PySem.W.notFirst K (He.ga K "Split") (.ref (He.ga K "Strip")) = true := by
  obtain ⟨_, h⟩ := He.ba T.ex
  obtain ⟨_, h⟩ := He.ba h
  obtain ⟨_, h⟩ := He.ba h
  obtain ⟨_, h⟩ := He.ba h
  obtain ⟨_, h⟩ := He.ba h
  obtain ⟨h1, h⟩ := He.ba h
  obtain ⟨h2, h⟩ := He.ba h
  obtain ⟨h3, h⟩ := He.ba h
  obtain ⟨h4, h⟩ := He.ba h
  obtain ⟨h5, h⟩ := He.ba h
  obtain ⟨h6, h⟩ := He.ba h
  obtain ⟨h7, h⟩ := He.ba h
  obtain ⟨h8, h9⟩ := He.ba h
  have ins : ∀ {x : Str}, Cls K (He.ga K x) → insB K x = true → InsK K (He.ga K x) := fun {x} c q => by
    obtain ⟨q1, q⟩ := He.ba q
    obtain ⟨q2, q⟩ := He.ba q
    obtain ⟨q3, q4⟩ := He.ba q
    exact ⟨c, He.eqO_ok q1, He.eqO_ok q2, of_decide_eq_true q3, of_decide_eq_true q4⟩
  exact ⟨h1, ins T.c_Strip h2, ins T.c_Split h3, of_decide_eq_true h4, of_decide_eq_true h5, of_decide_eq_true h6, of_decide_eq_true h7, h8, h9⟩
omit T in
theorem nf_self {C : Addr} : PySem.W.notFirst K C (.ref C) = true := by simp [PySem.W.notFirst]
abbrev Str4 := Int × List Int × Int × Int
def eqSt (i : Str4 × Str4) : Bool := decide (i.1.1 = i.2.1) && (decide (i.1.2.1 = i.2.2.1) && (decide (i.1.2.2.1 = i.2.2.2.1) && decide (i.1.2.2.2 = i.2.2.2.2)))
theorem e_Strip : EqC P w K mg base 1 (He.ma K (He.ga K "Strip") "__eq__") (spP P w K (ι := Str4 × Str4) (fun i => [stR K i.1, stR K i.2]) (fun _ => True) (fun i => .d (.bool (eqSt i)))) := by
  obtain ⟨fd, F⟩ := T.D_StripEq
  refine ⟨fd, _, fun_pure F sc_StripEq (fun _ => rfl) (fun ⟨⟨f, d, lo, hi⟩, ⟨f2, d2, lo2, hi2⟩⟩ cdv Ar outer s H E hC hr => ?_), F.bindsN (ps := ["self", "other"]) fun _ _ _ _ _ _ us hl => match us, hl with | [_, _], _ => rfl⟩
  refine s_one (s_ret (x_and (x_isiC T.f_isinstance PyProof.Rows.boot_isinstance T.ex2.2.1 T.g_Strip T.ex2.2.2.2.1 (x_var 1)) (fun _ => x_and (x_eqI (x_fld (x_var 0) T.c_Strip T.n_Strip_face (by rfl)) (x_fld (x_var 1) T.c_Strip T.n_Strip_face (by rfl))) (fun _ => x_and (x_eqD hr (x_fld (x_var 0) T.c_Strip T.n_Strip_direction (by rfl)) (x_fld (x_var 1) T.c_Strip T.n_Strip_direction (by rfl)) (shaped_ti (l := d)) (shaped_ti (l := d2))) (fun _ => x_and (x_eqI (x_fld (x_var 0) T.c_Strip T.n_Strip_low (by rfl)) (x_fld (x_var 1) T.c_Strip T.n_Strip_low (by rfl))) (fun _ => x_one (x_eqI (x_fld (x_var 0) T.c_Strip T.n_Strip_high (by rfl)) (x_fld (x_var 1) T.c_Strip T.n_Strip_high (by rfl)))))))) ?_)
  show _ = VD.d (.bool (eqSt ((f, d, lo, hi), (f2, d2, lo2, hi2))))
  rw [eqv_ti]
  rfl
theorem e_StripSplit : EqC P w K mg base 1 (He.ma K (He.ga K "Strip") "__eq__") (spP P w K (ι := Str4 × Int) (fun i => [stR K i.1, spV K (.int i.2)]) (fun _ => True) (fun i => .d (.bool false))) := by
  obtain ⟨fd, F⟩ := T.D_StripEq
  refine ⟨fd, _, fun_pure F sc_StripEq (fun _ => rfl) (fun ⟨⟨f, d, lo, hi⟩, c⟩ cdv Ar outer s H E hC hr => ?_), F.bindsN (ps := ["self", "other"]) fun _ _ _ _ _ _ us hl => match us, hl with | [_, _], _ => rfl⟩
  exact s_one (s_ret (x_and (l := false) (x_isiC T.f_isinstance PyProof.Rows.boot_isinstance T.ex2.2.2.1 T.g_Strip T.ex2.2.2.2.2.2.1 (x_var 1)) (fun h => by cases h)) (by rfl))
theorem e_Split : EqC P w K mg base 1 (He.ma K (He.ga K "Split") "__eq__") (spP P w K (ι := Int × Int) (fun i => [spV K (.int i.1), spV K (.int i.2)]) (fun _ => True) (fun i => .d (.bool (decide (i.1 = i.2))))) := by
  obtain ⟨fd, F⟩ := T.D_SplitEq
  refine ⟨fd, _, fun_pure F sc_SplitEq (fun _ => rfl) (fun ⟨c, c2⟩ cdv Ar outer s H E hC hr => ?_), F.bindsN (ps := ["self", "other"]) fun _ _ _ _ _ _ us hl => match us, hl with | [_, _], _ => rfl⟩
  exact s_one (s_ret (x_and (x_isiC T.f_isinstance PyProof.Rows.boot_isinstance T.ex2.2.2.1 T.g_Split T.ex2.2.2.2.2.2.2.1 (x_var 1)) (fun _ => x_one (x_eqI (x_fld (x_var 0) T.c_Split T.n_Split_corner (by rfl)) (x_fld (x_var 1) T.c_Split T.n_Split_corner (by rfl))))) (by rfl))
theorem e_SplitStrip : EqC P w K mg base 1 (He.ma K (He.ga K "Split") "__eq__") (spP P w K (ι := Int × Str4) (fun i => [spV K (.int i.1), stR K i.2]) (fun _ => True) (fun i => .d (.bool false))) := by
  obtain ⟨fd, F⟩ := T.D_SplitEq
  refine ⟨fd, _, fun_pure F sc_SplitEq (fun _ => rfl) (fun ⟨c, ⟨f, d, lo, hi⟩⟩ cdv Ar outer s H E hC hr => ?_), F.bindsN (ps := ["self", "other"]) fun _ _ _ _ _ _ us hl => match us, hl with | [_, _], _ => rfl⟩
  exact s_one (s_ret (x_and (l := false) (x_isiC T.f_isinstance PyProof.Rows.boot_isinstance T.ex2.2.1 T.g_Split T.ex2.2.2.2.2.1 (x_var 1)) (fun h => by cases h)) (by rfl))
end
end K27
set_option maxHeartbeats 4000000
/-! The box; the law's own small defs. -/
namespace K27
open PySem PySem.Spec PyProof.Rows L2
local macro_rules | `(tactic| walk_at "c") => `(tactic| first | trivial | assumption | (dsimp only; (repeat' apply And.intro) <;> first | assumption | trivial | omega) | ((repeat' apply And.intro) <;> first | assumption | trivial | omega))
local macro_rules | `(tactic| walk_at "ix") => `(tactic| (try dsimp only); first | exact ix_ti (by omega) (by omega) | exact ix_li (by omega) (by omega) | exact ix_frames (by omega) (by omega) | rfl)
local macro_rules | `(tactic| walk_at "sx") => `(tactic| (try dsimp only); exact ixN_of (by omega) (by first | omega | (simp only [List.length_set, List.length_map, List.length_cons, List.length_nil]; omega)))
local macro_rules | `(tactic| walk_at "div") => `(tactic| (try dsimp only); first | exact ⟨by omega, by omega⟩ | omega)
local macro_rules | `(tactic| walk_at "mul") => `(tactic| (try dsimp only); first | exact .inl ⟨by omega, by omega⟩ | exact .inr ⟨by omega, by omega⟩)
/-- [..] * k -/
theorem n_rep {X : Cx} {M : Option Addr} {Γ : Gm} {a b : Expr} {pos : Pos} {ds : List PyData} {k : Nat} (ha : PE X a (tN (zx X M) Γ (fun l => l = ds))) (hb : PE X b (tD (zx X M) Γ (fun y => y = .d (.int (k : Int))))) (hl : ds.length * k ≤ 1000) (hk : k ≤ 1000) : PE X (.BinOp a .Mult b pos) (tN (zx X M) Γ (fun l => l = (List.replicate k ds).flatten)) :=
  pe_imp (pe_op op_rep ha hb) fun σ H Q ⟨B0, H0, B, o, kk⟩ => ⟨B0, H0, B, o, fun l vs ds' B1 H1 hd g1 o1 hl0 hb0 hm0 hH0 hvs => by
    subst hd
    have hdi : ∀ {B1' : Hp}, True := fun {_} => trivial
    -- the list stands while the int is read
    have g0 : Gr M B H (upd B1 l (.lst vs)) H1 := ⟨fun a w z => by rw [upd_ne (ne_of_none (g1.bb a w z) hb0)]; exact g1.bb a w z, fun a w z => by
      by_cases q : a = l
      · subst q
        rw [upd_same] at z
        rw [← z]
        exact hH0
      · rw [upd_ne q] at z
        exact o1.bh a w z, g1.hh, fun a z => by
      by_cases q : a = l
      · subst q
        exact .inr hl0
      · rw [upd_ne q] at z
        exact g1.nw a z, g1.al⟩
    have up : Same B1 (upd B1 l (.lst vs)) := fun a w z => by rw [upd_ne (ne_of_none z hb0)]; exact z
    have hd1 : HandM (zx X M) (upd B1 l (.lst vs)) H1 := fun a z => by
      obtain ⟨nb, c, cells, pos, rest, tot, q, q2, q3⟩ := o1.hand a z
      exact ⟨by rw [upd_ne (fun w => hm0 (by rw [← w]; exact z))]; exact nb, c, cells, pos, rest, tot, q, up.seq q2, q3⟩
    have o2 := o.growM g0 hd1
    refine ⟨B0, H0, _, o2, fun v r B2 H2 hr g2 o3 hv => ?_⟩
    subst hr
    have ev := dpi hv
    subst ev
    have hl2 : H2 l = some (.lst vs) := o3.bh _ _ (g2.bb _ _ upd_same)
    have hlen := dpall_len hvs
    refine ⟨l, (k : Int), vs, rfl, rfl, hl2, by omega, by omega, by rw [hlen]; show ds'.length * (k : Int).toNat ≤ _; rw [Int.toNat_natCast]; exact Nat.le_of_lt (small1000 hl), fun p hp => ?_⟩
    obtain ⟨g, o4, e1, e2, e3⟩ := newL (vs := (List.replicate (k : Int).toNat vs).flatten) (g0.trans g2) o3 hp
    refine kk p _ _ B2 _ rfl g o4 e1 e2 e3 upd_same ?_
    rw [Int.toNat_natCast]
    exact dpall_rep (dpall_mono (up.trans g2.bb) _ _ hvs) k⟩
section
variable {P : Program} {w : World} {K : PySem.W.Frag} {mg : Str → Option Value} {base : Heap} (T : Tx K mg)
include T
/-! ### Box -/
omit T in
theorem seq3 {s : List Int} (h : s.length = 3) : s = [gi s 0, gi s 1, gi s 2] := by
  match s, h with
  | [a, b, c], _ => rfl
def spB (C : Addr) (K : PySem.W.Frag) (P : Program) (w : World) : Sp := fun vs H Q _ => ∃ (q dx : Addr) (v : V) (s : List Int) (B : Hp), vs = [.ref q, v] ∧ H q = some (.ins C dx []) ∧ Same B H ∧ Dp K B v (li s) ∧ s.length = 3 ∧ (∀ x ∈ s, 1 ≤ x ∧ x ≤ 60) ∧ ∀ t B' H', Gr none B H B' H' → Dp K B' t (ti s) → Q .non (upd H' q (.ins C dx [("sides", t)]))
theorem b_Box : ∃ fd ps, FnOk P w K mg base CX0 2 (He.ma K (He.ga K "Box") "__init__") fd ps (spB (He.ga K "Box") K P w) ∧ Binds K fd ps [] := by
  obtain ⟨fd, F⟩ := T.D_BoxInit
  refine ⟨fd, _, F.ok sc_BoxInit (fun vs H Q E h => ?_) (fun cdv A outer s H vs Q E hr h => ?_), F.bindsN (ps := ["self", "sides"]) fun _ _ _ _ _ _ us hl => match us, hl with | [_, _], _ => rfl⟩
  · obtain ⟨q, dx, v, s, B, rfl, _⟩ := h
    rfl
  · obtain ⟨q, dx, v, s', B, rfl, hq, hs, hv, h3, hb, k⟩ := h
    obtain ⟨t0, hms⟩ := T.i_MOST_SIDE
    let X := (cxOf CX0 P w K mg base N_BoxInit d_BoxInit.qual (defScope st_BoxInit) (He.fAd K d_BoxInit.at_) cdv A outer s H E).nox
    let G1 : Gm := [some (.ad q), some (.v (.d (li s'))), none, none]
    let te : TE := fun σ H Q => ∃ o2 o3, tD (zx X none) [some (.ad q), some (.v (.d (li s'))), o2, o3] (fun y => y = .d (ti s')) σ H Q
    refine ⟨tSeq (tO (zx X none) E G1 (fun o => o = .nx G1)) (tSeq (tO (zx X none) E G1 (fun o => ∃ o2 o3, o = .nx [some (.ad q), some (.v (.d (li s'))), o2, o3])) (sFld K (tVar 0) te "sides")), PSs.nox (pss_cons ?_ (pss_cons ?_ (pss_one ?_))), ?_⟩
    · refine s_if (X := X) (w_or (t_not (t_v (x_isi2 T.f_isinstance (x_var 1) (c_ty T.f_list PyProof.Rows.boot_list) (c_ty T.f_tuple PyProof.Rows.boot_tuple) (kL _ true) (kT _ true) PyProof.Rows.boot_isinstance))) (fun _ => w_or1 (t_neI (x_len T.f_len true PySem.boot_len (x_var 1)) x_int))).pt ?_ ?_
      · intro h
        exfalso
        have h : true = (false || !decide (((s'.map PyData.int).length : Int) = 3)) := h
        rw [List.length_map, h3] at h
        cases h
      · intro h
        exact s_nil rfl
    · refine s_forE (X := X) (M := none) (Γ := G1) (ns := s') [2, 3] (fun i G => ∃ o2 o3, G = [some (.ad q), some (.v (.d (li s'))), o2, o3]) PassesOwn.never rfl T.f_enumerate (x_var 1) (show PGs _ _ (gNs [2, 3]) from (pgs_cons (pg_name (i := 2) sc_BoxInit.nd rfl (Or.inl rfl)) (pgs_cons (pg_name (i := 3) sc_BoxInit.nd rfl (Or.inl rfl)) pgs_nil))) ?_ rfl ?_ ?_ ?_
      · intro i G hG j hj
        obtain ⟨o2, o3, rfl⟩ := hG
        rcases List.mem_cons.mp hj with rfl | hj
        · exact Nat.le_of_ble_eq_true rfl
        · rw [List.mem_singleton.mp hj]
          exact Nat.le_of_ble_eq_true rfl
      · exact ⟨none, none, rfl⟩
      · intro i G hi hG
        obtain ⟨o2, o3, rfl⟩ := hG
        have q := hb _ (getD_mem hi)
        refine s_one (s_if (t_not (t_v (x_call (c_wholeD T) hr (_, _, _) (xa_cons (x_var 3) (xa_cons x_int (xa_cons (x_glob (r := .d (.int 60)) hms (v := .int 60) ⟨t0, rfl⟩ (fun _ => Dp.int _)) xa_nil))) (by trivial)))) ?_ ?_)
        · intro h
          exfalso
          have h : true = !(decide (1 ≤ s'.getD i 0) && decide (s'.getD i 0 ≤ 60)) := h
          rw [decide_eq_true q.1, decide_eq_true q.2] at h
          cases h
        · intro h
          exact s_nil ⟨_, _, rfl⟩
      · intro G hG
        obtain ⟨o2, o3, rfl⟩ := hG
        exact ⟨o2, o3, rfl⟩
    · refine ps_fld (X := X) (pv 0) (?_ : PE X _ te) rfl
      refine ⟨fun pins s σ H Q I ⟨o2, o3, z⟩ => ?_⟩
      have e : ti s' = .tuple [.int (gi s' 0), .int (gi s' 1), .int (gi s' 2)] := by
        rw [seq3 h3]
        rfl
      refine PE.run (t := tD (zx X none) [some (.ad q), some (.v (.d (li s'))), o2, o3] (fun y => y = .d (ti s'))) ?_ pins s σ H Q I z
      rw [e]
      exact x_tup (xp_cons (x_ix (x_var 1) x_int (by exact ix_li (by decide) (by rw [h3]; decide))) (xp_cons (x_ix (x_var 1) x_int (by exact ix_li (by decide) (by rw [h3]; decide))) (xp_cons (x_ix (x_var 1) x_int (by exact ix_li (by decide) (by rw [h3]; decide))) xp_nil)))
    · have ok0 : Ok (zx X none) B H B H (start N_BoxInit [.ref q, v]) G1 := by
        refine ⟨Gr.refl hs, fun a z => (by cases z), rfl, fun i t e => ?_, fun i j t u y e1 e2 o1 o2 => ?_⟩
        · match i, e with
          | 0, e =>
            cases e
            exact ⟨_, rfl, rfl⟩
          | 1, e =>
            cases e
            exact ⟨_, rfl, hv⟩
          | 2, e => cases e
          | 3, e => cases e
          | i + 4, e => cases e
        · match i, e1 with
          | 0, e =>
            cases e
            cases o1
          | 1, e =>
            cases e
            cases o1
          | 2, e => cases e
          | 3, e => cases e
          | i + 4, e => cases e
      refine ⟨B, H, B, ok0, ⟨fun G σ1 B1 H1 e o1 sm => ?_, fun r v b h e => (by cases e), fun G s b h e => (by cases e), fun G s b h e => (by cases e), fun C f x v d b h e => (by cases e)⟩⟩
      have e := O.nx.inj e
      subst e
      refine ⟨B, H, B1, o1, ⟨fun G σ2 B2 H2 e o2 sm2 => ?_, fun r v b h ⟨_, _, e⟩ => (by cases e), fun G s b h ⟨_, _, e⟩ => (by cases e), fun G s b h ⟨_, _, e⟩ => (by cases e), fun C f x v d b h ⟨_, _, e⟩ => (by cases e)⟩⟩
      obtain ⟨o2', o3', e⟩ := e
      have e := O.nx.inj e
      subst e
      refine ⟨o2', o3', B, H, B2, o2, fun t r B3 H3 hr3 g3 o3 ht => ?_⟩
      subst hr3
      obtain ⟨y, hy, hq2⟩ := o3.sl 0 (.ad q) rfl
      have hq2 : y = .ref q := hq2
      subst hq2
      refine ⟨.ref q, hy, q, _, dx, [], rfl, o3.gr.hh _ _ (by simp) hq, T.c_Box, T.n_Box_sides, by show 0 < 1000; decide, ?_⟩
      exact k t B3 H3 o3.gr ht
end
end K27
set_option maxHeartbeats 4000000
/-! The law's own small defs. -/
namespace K27
open PySem PySem.Spec PyProof.Rows L2
local macro_rules | `(tactic| walk_at "c") => `(tactic| first | trivial | assumption | (dsimp only; (repeat' apply And.intro) <;> first | assumption | trivial | omega) | ((repeat' apply And.intro) <;> first | assumption | trivial | omega))
local macro_rules | `(tactic| walk_at "ix") => `(tactic| (try dsimp only); first | exact ix_ti (by omega) (by omega) | exact ix_li (by omega) (by omega) | exact ix_frames (by omega) (by omega) | rfl)
local macro_rules | `(tactic| walk_at "sx") => `(tactic| (try dsimp only); exact ixN_of (by omega) (by first | omega | (simp only [List.length_set, List.length_map, List.length_cons, List.length_nil]; omega)))
local macro_rules | `(tactic| walk_at "div") => `(tactic| (try dsimp only); first | exact ⟨by omega, by omega⟩ | omega)
local macro_rules | `(tactic| walk_at "mul") => `(tactic| (try dsimp only); first | exact .inl ⟨by omega, by omega⟩ | exact .inr ⟨by omega, by omega⟩)
theorem ix_ll {ls : List (List Int)} {i : Int} (h0 : 0 ≤ i) (h : i < ls.length) : ixD (.list (ls.map ti)) i = some (ti (ls.getD i.toNat [])) := by
  have h' : i.toNat < ls.length := by omega
  have e : i = ((i.toNat : Nat) : Int) := by omega
  have q : (ls.map ti)[i.toNat]? = some (ti (ls.getD i.toNat [])) := by
    rw [List.getElem?_map, List.getElem?_eq_getElem h', List.getD_eq_getElem?_getD, List.getElem?_eq_getElem h']
    rfl
  have z := atI_nat q
  rw [← e] at z
  exact z
section
variable {P : Program} {w : World} {K : PySem.W.Frag} {mg : Str → Option Value} {base : Heap} (T : Tx K mg)
include T
theorem x_box {X : Cx} {M : Option Addr} {Γ : Gm} {e : Expr} {p pos : Pos} {s : List Int} {j : Nat} (bx : ∃ fd ps, FnOk X.prog X.w X.K X.mg X.base CX0 2 (He.ma X.K (He.ga X.K "Box") "__init__") fd ps (spB (He.ga X.K "Box") X.K X.prog X.w) ∧ Binds X.K fd ps []) (mk : Mk X.K (He.ga X.K "Box") (He.ma X.K (He.ga X.K "Box") "__init__")) (hm : X.mg "Box" = some (.ref (He.ga X.K "Box"))) (hr : Room j X.A) (ha : PE X e (tD (zx X M) Γ (fun y => y = .d (li s)))) (h3 : s.length = 3) (hb : ∀ x ∈ s, 1 ≤ x ∧ x ≤ 60) (hk : 3 ≤ j := by decide) (hg : Gl X "Box" := by rfl)
    (he : starEach [e] X.env = (false, eval e X.env) :: starEach [] X.env := by rfl) (hpl : (backTo pos (starEach [] X.env)).any (·.1) = false := by rfl) : PE X (.Call (.Name "Box" p) [e] [] pos) (tD (zx X M) Γ (fun y => y = bxV X.K s)) := by
  obtain ⟨fd, ps, F, hbd⟩ := bx
  refine pe_imp (pe_make mk F (hr.mono hk) hg hm hbd .nil pass0 (xp_cons (rs := []) ha xp_nil he) (by decide) he hpl) fun σ H Q ⟨B0, H0, B, o, q⟩ => ⟨B0, H0, B, o, fun vs rs B1 H1 hrs g1 o1 hvs z dx hz hdx hne => ?_⟩
  subst hrs
  obtain ⟨v, rfl, hv⟩ : ∃ v, vs = [v] ∧ Dp (zx X M).K B1 v (li s) := by
    cases hvs with
    | cons d1 d2 =>
      cases d2
      exact ⟨_, rfl, d1⟩
  have hbz : B1 z = none := o1.bh.free hz
  have up : ∀ {a : Addr} {w : HO}, H1 a = some w → upd (upd H1 dx (.own z)) z (.ins (He.ga X.K "Box") dx []) a = some w := fun {a w} e => by
    rw [upd_ne (ne_of_none e hz), upd_ne (ne_of_none e hdx)]
    exact e
  refine ⟨z, dx, v, s, B1, rfl, upd_same, fun a w e => up (o1.bh a w e), hv, h3, hb, fun t B2 H2 g ht => ⟨rfl, ?_⟩⟩
  have hb2 : B2 z = none := g.out hbz (by rw [upd_same]; simp)
  have g3 : Gr M B1 H1 (upd B2 z (.ins (He.ga X.K "Box") dx [("sides", t)])) (upd H2 z (.ins (He.ga X.K "Box") dx [("sides", t)])) := ⟨fun a w e => by rw [upd_ne (ne_of_none (g.bb a w e) hb2)]; exact g.bb a w e, fun a w e => by
      by_cases ha : a = z
      · subst ha
        rw [upd_same] at e ⊢
        exact e
      · rw [upd_ne ha] at e ⊢
        exact g.bh a w e, fun a w _ e => by
      rw [upd_ne (ne_of_none e hz)]
      exact g.hh a w (by simp) (up e), fun a e => by
      by_cases ha : a = z
      · subst ha
        exact .inr hz
      · rw [upd_ne ha] at e
        rcases g.nw a e with h | h
        · exact .inl h
        · right
          cases q : H1 a with
          | none => rfl
          | some w =>
            rw [up q] at h
            exact (nomatch h), fun a e => by
      by_cases ha : a = z
      · subst ha
        rw [upd_same]
        simp
      · rw [upd_ne ha]
        cases q : H1 a with
        | none => exact absurd q e
        | some w =>
          rw [g.hh a w (by simp) (up q)]
          simp⟩
  have hd1 : HandM (zx X M) (upd B2 z (.ins (He.ga X.K "Box") dx [("sides", t)])) (upd H2 z (.ins (He.ga X.K "Box") dx [("sides", t)])) := fun a e => by
    obtain ⟨nb, c, cells, pos, rest, tot, q1, q2, q3⟩ := o1.hand a e
    exact ⟨g3.out nb (by rw [q1]; simp), c, cells, pos, rest, tot, by rw [upd_ne (ne_of_none q1 hz)]; exact g.hh _ _ (by simp) (up q1), g3.bb.seq q2, q3⟩
  refine q _ _ _ _ rfl (g1.trans g3) (o1.growM g3 hd1) ⟨z, dx, [("sides", t)], rfl, upd_same, rfl, .cons (dp_mono (fun a w e => by rw [upd_ne (ne_of_none e hb2)]; exact e) _ _ ht) .nil⟩
theorem c_law_axes : Cal P w K mg base 1 "_law_axes" (spP P w K (ι := Int) (fun f => [.d (.int f)]) (fun f => 0 ≤ f ∧ f < 6) (fun f => .d (.tuple [.int (a1 f), .int (a2 f)]))) := by
  obtain ⟨fd, F⟩ := T.D_law_axes
  refine ⟨_, fd, _, fun_pure F sc_law_axes (fun _ => rfl) (fun f cdv Ar outer s H E hC hr => ?_), T.g_law_axes, F.kp, F.bindsN (ps := ["_law_face"]) fun _ _ _ _ _ _ us hl => match us, hl with | [_], _ => rfl⟩
  obtain ⟨h0, h6⟩ := hC
  exact (s_one (s_ret (x_ix (x_tup (xp_cons (x_tup (xp_cons x_int (xp_cons x_int xp_nil))) (xp_cons (x_tup (xp_cons x_int (xp_cons x_int xp_nil))) (xp_cons (x_tup (xp_cons x_int (xp_cons x_int xp_nil))) (xp_cons (x_tup (xp_cons x_int (xp_cons x_int xp_nil))) (xp_cons (x_tup (xp_cons x_int (xp_cons x_int xp_nil))) (xp_cons (x_tup (xp_cons x_int (xp_cons x_int xp_nil))) xp_nil))))))) (x_var 0) (by exact ix_frames h0 h6)) (by rfl)))
theorem c_law_steps : Cal P w K mg base 2 "_law_steps" (spP P w K (ι := Int × Int × Int) (fun i => [.d (.int i.1), .d (.int i.2.1), .d (.int i.2.2)]) (fun i => 0 ≤ i.1 ∧ i.1 < 6) (fun i => .d (ti (stepsM i.1 i.2.1 i.2.2)))) := by
  obtain ⟨fd, F⟩ := T.D_law_steps
  refine ⟨_, fd, _, fun_pure F sc_law_steps (fun _ => rfl) (fun ⟨f, x, y⟩ cdv Ar outer s H E hC hr => ?_), T.g_law_steps, F.kp, F.bindsN (ps := ["_law_face", "_law_first", "_law_second"]) fun _ _ _ _ _ _ us hl => match us, hl with | [_, _, _], _ => rfl⟩
  obtain ⟨h0, h6⟩ := hC
  dsimp only at h0 h6
  have b1 := a1_b h0 h6
  have b2 := a2_b h0 h6
  refine s_cons (s_asg 3 sc_law_steps.nd (x_call (c_law_axes T) hr _ (xa_cons (x_var 0) xa_nil) (by walk_at "c")) ?_)
  refine s_cons (s_asgN 4 sc_law_steps.nd (n_lst (xp_cons x_int (xp_cons x_int (xp_cons x_int xp_nil)))) (fun _ e => ?_))
  subst e
  refine s_cons (s_setII 4 [0, 0, 0] (x_var 1) (x_ix (x_var 3) x_int (by rfl)) (by exact b1) ?_)
  refine s_cons (s_setII 4 ([0, 0, 0].set (a1 f).toNat x) (x_var 2) (x_ix (x_var 3) x_int (by rfl)) (by rw [List.length_set]; exact b2) ?_)
  exact s_freeze 4 (ds := (stepsM f x y).map PyData.int) (s_one (s_ret (x_tupL T.f_tuple PyProof.Rows.boot_tuple (x_var 4)) (by rfl)))
theorem c_law_four : Cal P w K mg base 3 "_law_four" (spP P w K (ι := Int × Int × Int) (fun i => [.d (.int i.1), .d (ti [i.2.1, i.2.2])]) (fun i => 0 ≤ i.1 ∧ i.1 < 6) (fun i => .d (.list ((fourM i.1 i.2.1 i.2.2).map ti)))) := by
  obtain ⟨fd, F⟩ := T.D_law_four
  refine ⟨_, fd, _, fun_pure F sc_law_four (fun _ => rfl) (fun ⟨f, p, q⟩ cdv Ar outer s H E hC hr => ?_), T.g_law_four, F.kp, F.bindsN (ps := ["_law_face", "_law_slope"]) fun _ _ _ _ _ _ us hl => match us, hl with | [_, _], _ => rfl⟩
  obtain ⟨h0, h6⟩ := hC
  dsimp only at h0 h6
  exact (s_cons (s_unpack [2, 3] rfl (x_var 1) (show PGs _ _ (gNs [2, 3]) from (pgs_cons (pg_name (i := 2) sc_law_four.nd rfl (Or.inl rfl)) (pgs_cons (pg_name (i := 3) sc_law_four.nd rfl (Or.inl rfl)) pgs_nil)))
    (s_one (s_ret (x_lst (xp_cons (x_call (c_law_steps T) hr (_, _, _) (xa_cons (x_var 0) (xa_cons (x_var 2) (xa_cons (x_var 3) xa_nil))) (by exact ⟨h0, h6⟩)) (xp_cons (x_call (c_law_steps T) hr (_, _, _) (xa_cons (x_var 0) (xa_cons (x_neg (x_var 3)) (xa_cons (x_var 2) xa_nil))) (by exact ⟨h0, h6⟩)) (xp_cons (x_call (c_law_steps T) hr (_, _, _) (xa_cons (x_var 0) (xa_cons (x_neg (x_var 2)) (xa_cons (x_neg (x_var 3)) xa_nil))) (by exact ⟨h0, h6⟩)) (xp_cons (x_call (c_law_steps T) hr (_, _, _) (xa_cons (x_var 0) (xa_cons (x_var 3) (xa_cons (x_neg (x_var 2)) xa_nil))) (by exact ⟨h0, h6⟩)) xp_nil))))) (by rfl)))))
theorem c_law_out : Cal P w K mg base 1 "_law_out" (spP P w K (ι := Int × List Int) (fun i => [.d (.int i.1), .d (ti i.2)]) (fun i => 0 ≤ i.1 ∧ i.1 < 6 ∧ i.2.length = 3) (fun i => .d (.int (outw i.1 i.2)))) := by
  obtain ⟨fd, F⟩ := T.D_law_out
  refine ⟨_, fd, _, fun_pure F sc_law_out (fun _ => rfl) (fun ⟨b, d⟩ cdv Ar outer s H E hC hr => ?_), T.g_law_out, F.kp, F.bindsN (ps := ["_law_beside", "_law_steps_here"]) fun _ _ _ _ _ _ us hl => match us, hl with | [_, _], _ => rfl⟩
  obtain ⟨h0, h6, hd⟩ := hC
  dsimp only at h0 h6 hd
  exact (s_one (s_ret (x_iteI (t_eqI (x_mod (x_int1 T.f_int PyProof.Rows.boot_int (x_var 0)) x_int (by walk_at "div")) x_int) (fun h => (x_ix (x_var 1) (x_fdiv (x_var 0) x_int (by walk_at "div")) (by walk_at "ix"))) (fun h => (x_neg (x_ix (x_var 1) (x_fdiv (x_var 0) x_int (by walk_at "div")) (by walk_at "ix"))))) (by show VD.d (.int (if b % 2 = 1 then _ else _)) = VD.d (.int (outw b d)); rw [mod2]; rfl)))
theorem c_law_over : Cal P w K mg base 2 "_law_over" (spP P w K (ι := Int × Int × List Int) (fun i => [.d (.int i.1), .d (.int i.2.1), .d (ti i.2.2)]) (fun i => 0 ≤ i.1 ∧ i.1 < 6 ∧ 0 ≤ i.2.1 ∧ i.2.1 < 6 ∧ i.2.2.length = 3) (fun i => .d (ti (goneM i.1 i.2.1 i.2.2)))) := by
  obtain ⟨fd, F⟩ := T.D_law_over
  refine ⟨_, fd, _, fun_pure F sc_law_over (fun _ => rfl) (fun ⟨f, b, d⟩ cdv Ar outer s H E hC hr => ?_), T.g_law_over, F.kp, F.bindsN (ps := ["_law_face", "_law_beside", "_law_steps_here"]) fun _ _ _ _ _ _ us hl => match us, hl with | [_, _, _], _ => rfl⟩
  obtain ⟨h0, h6, b0, b6, hd⟩ := hC
  dsimp only at h0 h6 b0 b6 hd
  refine s_cons (s_asgN 3 sc_law_over.nd (n_list T.f_list false PyProof.Rows.boot_list (x_var 2)) (fun _ e => ?_))
  subst e
  refine s_cons (s_asg 4 sc_law_over.nd (x_call (c_law_out T) hr (_, _) (xa_cons (x_var 1) (xa_cons (x_var 2) xa_nil)) (by exact ⟨b0, b6, hd⟩)) ?_)
  refine s_cons (s_setII 3 d x_int (x_fdiv (x_var 1) x_int (by walk_at "div")) (by dsimp only; omega) ?_)
  refine s_cons (s_setII 3 (d.set (b / 2).toNat 0) (x_iteI (t_eqI (x_mod (x_int1 T.f_int PyProof.Rows.boot_int (x_var 0)) x_int (by walk_at "div")) x_int) (fun h => (x_neg (x_var 4))) (fun h => (x_var 4))) (x_fdiv (x_var 0) x_int (by walk_at "div")) (by rw [List.length_set]; dsimp only; omega) ?_)
  refine s_freeze 3 (ds := (goneM f b d).map PyData.int) ?_ (by unfold goneM; rw [← mod2]; rfl)
  exact s_one (s_ret (x_tupL T.f_tuple PyProof.Rows.boot_tuple (x_var 3)) (by rfl))
theorem c_law_across : Cal P w K mg base 2 "_law_across" (spP P w K (ι := Int × List Int × Bool × List Int) (fun i => [.d (.int i.1), .d (ti i.2.1), .d (seqD i.2.2.1 (i.2.2.2.map PyData.int))]) (fun i => 0 ≤ i.1 ∧ i.1 < 6 ∧ i.2.1.length = 3 ∧ i.2.2.2.length = 3 ∧ Bd 10000 i.2.1) (fun i => .d (.int (meas i.1 i.2.1 i.2.2.2)))) := by
  obtain ⟨fd, F⟩ := T.D_law_across
  refine ⟨_, fd, _, fun_pure F sc_law_across (fun _ => rfl) (fun ⟨f, d, k, p⟩ cdv Ar outer s H E hC hr => ?_), T.g_law_across, F.kp, F.bindsN (ps := ["_law_face", "_law_steps_here", "_law_place"]) fun _ _ _ _ _ _ us hl => match us, hl with | [_, _, _], _ => rfl⟩
  obtain ⟨h0, h6, hd, hp, hB⟩ := hC
  dsimp only at h0 h6 hd hp hB
  have b1 := a1_b h0 h6
  have b2 := a2_b h0 h6
  have q1 := hB.at b1.1 (by omega)
  have q2 := hB.at b2.1 (by omega)
  exact (s_cons (s_asg 3 sc_law_across.nd (x_call (c_law_axes T) hr _ (xa_cons (x_var 0) xa_nil) (by walk_at "c"))
    (s_one (s_ret (x_sub (x_mul (x_ix (x_var 1) (x_ix (x_var 3) x_int (by rfl)) (by walk_at "ix")) (x_ix (x_var 2) (x_ix (x_var 3) x_int (by rfl)) (by exact ix_sq k b2.1 (by dsimp only; omega))) (by walk_at "mul")) (x_mul (x_ix (x_var 1) (x_ix (x_var 3) x_int (by rfl)) (by walk_at "ix")) (x_ix (x_var 2) (x_ix (x_var 3) x_int (by rfl)) (by exact ix_sq k b1.1 (by dsimp only; omega))) (by walk_at "mul"))) (by rfl)))))
theorem c_law_is_int : Cal P w K mg base 1 "_law_is_int" (spP P w K (ι := PyData) (fun x => [.d x]) (fun _ => True) (fun x => .d (.bool (isIB x && !isB x)))) := by
  obtain ⟨fd, F⟩ := T.D_law_is_int
  refine ⟨_, fd, _, fun_pure F sc_law_is_int (fun _ => rfl) (fun x cdv Ar outer s H E hC hr => ?_), T.g_law_is_int, F.kp, F.bindsN (ps := ["_law_thing"]) fun _ _ _ _ _ _ us hl => match us, hl with | [_], _ => rfl⟩
  exact (s_one (s_ret (x_and (x_isi T.f_isinstance (x_var 0) (c_ty T.f_int PyProof.Rows.boot_int) (kI x) PyProof.Rows.boot_isinstance) (fun _ => (x_one (x_not (x_isi T.f_isinstance (x_var 0) (c_ty T.f_bool PyProof.Rows.boot_bool) (kB x) PyProof.Rows.boot_isinstance))))) (by rfl)))
theorem c_law_many : Cal P w K mg base 1 "_law_many" (spP P w K (ι := Int × Int) (fun i => [.d (ti [i.1, i.2])]) (fun i => -1000 ≤ i.1 ∧ i.1 ≤ 1000) (fun i => .d (.int (manyM i.1 i.2)))) := by
  obtain ⟨fd, F⟩ := T.D_law_many
  refine ⟨_, fd, _, fun_pure F sc_law_many (fun _ => rfl) (fun ⟨p, q⟩ cdv Ar outer s H E hC hr => ?_), T.g_law_many, F.kp, F.bindsN (ps := ["_law_slope"]) fun _ _ _ _ _ _ us hl => match us, hl with | [_], _ => rfl⟩
  have hC : -1000 ≤ p ∧ p ≤ 1000 := hC
  exact (s_one (s_ret (x_max2 T.f_max rfl PyProof.Rows.boot_max x_int (x_mul (x_ix (z := .int p) (x_var 0) x_int (by rfl)) (x_ix (z := .int q) (x_var 0) x_int (by rfl)) (by exact .inl ⟨by omega, by omega⟩))) (by rfl)))
theorem c_law_spots : Cal P w K mg base 2 "_law_spots" (spP P w K (ι := List Int × Int) (fun i => [.d (li i.1), .d (.int i.2)]) (fun i => i.1.length = 3 ∧ Bd 1000 i.1 ∧ 0 ≤ i.2 ∧ i.2 < 6) (fun i => .d (.list ((spotsM i.1 i.2 4).map li)))) := by
  obtain ⟨fd, F⟩ := T.D_law_spots
  refine ⟨_, fd, _, fun_pure F sc_law_spots (fun _ => rfl) (fun ⟨s', f⟩ cdv Ar outer s H E hC hr => ?_), T.g_law_spots, F.kp, F.bindsN (ps := ["_law_sides", "_law_face"]) fun _ _ _ _ _ _ us hl => match us, hl with | [_, _], _ => rfl⟩
  obtain ⟨h3, hB, h0, h6⟩ := hC
  dsimp only at h3 hB h0 h6
  have b1 := a1_b h0 h6
  have b2 := a2_b h0 h6
  have q0 := hB.at (show 0 ≤ f / 2 by omega) (by omega)
  have q1 := hB.at b1.1 (by omega)
  have q2 := hB.at b2.1 (by omega)
  refine s_cons (s_asg 2 sc_law_spots.nd (x_call (c_law_axes T) hr _ (xa_cons (x_var 1) xa_nil) (by walk_at "c")) ?_)
  refine s_cons (s_asgN 3 sc_law_spots.nd (n_lst xp_nil) (fun _ e => ?_))
  subst e
  refine s_cons (s_for 4 (fun i G => ∃ o4 o5, G = [some (.v (.d (li s'))), some (.v (.d (.int f))), some (.v (.d (.tuple [.int (a1 f), .int (a2 f)]))), some (.mu ((spotsM s' f i).map li)), o4, o5]) PassesOwn.never rfl (wlk_rng1 (by omega)) sc_law_spots.nd (p_rng1 T.f_range x_int) ?_ ?_ ?_ ?_)
  · intro i G hG
    obtain ⟨o4, o5, rfl⟩ := hG
    exact Nat.le_of_ble_eq_true rfl
  · exact ⟨none, none, rfl⟩
  · intro i G hi hG
    obtain ⟨o4, o5, rfl⟩ := hG
    have hi : i < 4 := hi
    refine s_cons (s_asgN 5 sc_law_spots.nd (n_rep (k := 3) (n_lst (xp_cons (x_mul (x_ix (x_var 0) (x_fdiv (x_var 1) x_int (by walk_at "div")) (by walk_at "ix")) (x_mod (x_int1 T.f_int PyProof.Rows.boot_int (x_var 1)) x_int (by walk_at "div")) (by walk_at "mul")) xp_nil)) x_int (by show 1 * 3 ≤ 1000; decide) (by decide)) (fun _ e => ?_))
    subst e
    refine s_cons (s_setII 5 (List.replicate 3 (gi s' (f / 2) * (f % 2))) (x_mul (x_ix (x_var 0) (x_ix (x_var 2) x_int (by rfl)) (by walk_at "ix")) (x_fdiv (x_var 4) x_int (by walk_at "div")) (by walk_at "mul")) (x_ix (x_var 2) x_int (by rfl)) (by exact b1) ?_)
    refine s_cons (s_setII 5 ((List.replicate 3 (gi s' (f / 2) * (f % 2))).set (a1 f).toNat (gi s' (a1 f) * ((0 + (i : Int)) / 2))) (x_mul (x_ix (x_var 0) (x_ix (x_var 2) x_int (by rfl)) (by walk_at "ix")) (x_mod (x_int1 T.f_int PyProof.Rows.boot_int (x_var 4)) x_int (by walk_at "div")) (by walk_at "mul")) (x_ix (x_var 2) x_int (by rfl)) (by rw [List.length_set]; exact b2) ?_)
    refine s_freeze 5 (ds := (spotM s' f (0 + (i : Int))).map PyData.int) ?_
    refine s_one (s_append 3 (ds := (spotsM s' f i).map li) (x_var 5) (by rw [List.length_map]; unfold spotsM; rw [List.length_map, List.length_range]; omega) ?_)
    refine ⟨some (.v (.d (.int (0 + (i : Int))))), some (.v (.d (li (spotM s' f (0 + (i : Int)))))), ?_⟩
    rw [spotsM_next, List.map_append]
    rfl
  · intro G hG
    obtain ⟨o4, o5, rfl⟩ := hG
    exact s_freeze 3 (ds := (spotsM s' f 4).map li) (s_one (s_ret (x_var 3) (by rfl)))
end
end K27
set_option maxHeartbeats 4000000
/-! The law's own defs: where a ray goes. -/
namespace K27
open PySem PySem.Spec PyProof.Rows L2
local macro_rules | `(tactic| walk_at "c") => `(tactic| first | trivial | assumption | (dsimp only; (repeat' apply And.intro) <;> first | assumption | trivial | omega) | ((repeat' apply And.intro) <;> first | assumption | trivial | omega))
local macro_rules | `(tactic| walk_at "ix") => `(tactic| (try dsimp only); first | exact ix_ti (by omega) (by omega) | exact ix_li (by omega) (by omega) | exact ix_frames (by omega) (by omega) | rfl)
local macro_rules | `(tactic| walk_at "sx") => `(tactic| (try dsimp only); exact ixN_of (by omega) (by first | omega | (simp only [List.length_set, List.length_map, List.length_cons, List.length_nil]; omega)))
local macro_rules | `(tactic| walk_at "div") => `(tactic| (try dsimp only); first | exact ⟨by omega, by omega⟩ | omega)
local macro_rules | `(tactic| walk_at "mul") => `(tactic| (try dsimp only); first | exact .inl ⟨by omega, by omega⟩ | exact .inr ⟨by omega, by omega⟩)
def bV : Option (Int × Int) → VD
  | none => .d .none
  | some (g, z) => .d (.tuple [.int g, .int z])
theorem ix_at {l : List Int} {i : Int} (h : 0 ≤ i ∧ i < l.length) : ixD (ti l) i = some (.int (gi l i)) := ix_ti h.1 h.2
section
variable {P : Program} {w : World} {K : PySem.W.Frag} {mg : Str → Option Value} {base : Heap} (T : Tx K mg)
include T
theorem c_law_range : Cal P w K mg base 3 "_law_range" (spP P w K (ι := List Int × Int × List Int) (fun i => [.d (li i.1), .d (.int i.2.1), .d (ti i.2.2)]) (fun i => i.1.length = 3 ∧ Bd 1000 i.1 ∧ 0 ≤ i.2.1 ∧ i.2.1 < 6 ∧ i.2.2.length = 3 ∧ Bd 10000 i.2.2) (fun i => .d (.tuple [.int (lstMin (toldM i.1 i.2.1 i.2.2)), .int (lstMax (toldM i.1 i.2.1 i.2.2))]))) := by
  obtain ⟨fd, F⟩ := T.D_law_range
  refine ⟨_, fd, _, fun_pure F sc_law_range (fun _ => rfl) (fun ⟨s', f, d⟩ cdv Ar outer s H E hC hr => ?_), T.g_law_range, F.kp, F.bindsN (ps := ["_law_sides", "_law_face", "_law_steps_here"]) fun _ _ _ _ _ _ us hl => match us, hl with | [_, _, _], _ => rfl⟩
  obtain ⟨h3, hBs, h0, h6, hd, hB⟩ := hC
  dsimp only at h3 hBs h0 h6 hd hB
  have sl : (spotsM s' f 4).length = 4 := by unfold spotsM; rw [List.length_map, List.length_range]
  have e : (List.range (spotsM s' f 4).length).map (fun i : Nat => PyData.int (meas f d ((spotsM s' f 4).getD i []))) = (toldM s' f d).map PyData.int := by
    rw [sl]
    rfl
  have hlen : ∀ i, i < (spotsM s' f 4).length → ((spotsM s' f 4).getD i []).length = 3 := fun i hi => by
    rw [sl] at hi
    have : i = 0 ∨ i = 1 ∨ i = 2 ∨ i = 3 := by omega
    rcases this with rfl | rfl | rfl | rfl <;> exact spotM_len
  have ne : toldM s' f d ≠ [] := by
    intro z
    have := congrArg List.length z
    unfold toldM at this
    rw [List.length_map, sl] at this
    cases this
  refine s_cons (s_asgLcD 3 4 (fun i => .int (meas f d ((spotsM s' f 4).getD i []))) rfl sc_law_range.nd (wlk_gl li []) (p_lst (x_call (c_law_spots T) hr (_, _) (xa_cons (x_var 0) (xa_cons (x_var 1) xa_nil)) (by exact ⟨h3, hBs, h0, h6⟩))) (blkOk_by (N := N_law_range) (sc := defScope st_law_range) (own := [("_law_spot", 4)]) (by decide +kernel)) (fun _ _ _ _ _ => pg_name (i := 4) sc_law_range.nd rfl (Or.inl rfl)) (fun i hi _ _ _ _ _ => (x_call (c_law_across T) hr (_, _, true, _) (xa_cons (x_var 1) (xa_cons (x_var 2) (xa_cons (x_var 4) xa_nil))) (by exact ⟨h0, h6, hd, hlen i hi, hB⟩))) (by rw [sl]; decide) ?_)
  refine s_freeze 3 (ds := (toldM s' f d).map PyData.int) ?_ (by rw [← e]; rfl)
  exact s_one (s_ret (x_tup (xp_cons (x_minL T.f_min rfl (lstMin_mem ne) lstMin_le PyProof.Rows.boot_min (x_var 3)) (xp_cons (x_maxL T.f_max rfl (lstMax_mem ne) lstMax_le PyProof.Rows.boot_max (x_var 3)) xp_nil))) (by rfl))
theorem c_law_pass : Cal P w K mg base 1 "_law_pass" (spP P w K (ι := List Int × Int × Int × List Int × List Int × Int × Int × Int) (fun i => [.d (li i.1), .d (.int i.2.1), .d (.int i.2.2.1), .d (ti i.2.2.2.1), .d (ti i.2.2.2.2.1)]) (fun i => i.1.length = 3 ∧ Bd 1000 i.1 ∧ 0 ≤ i.2.2.1 ∧ i.2.2.1 ≤ 1000 ∧ i.2.2.2.1.length = 3 ∧ i.2.2.2.2.1.length = 3 ∧ Bd 1000 i.2.2.2.2.1 ∧ bestN i.1 i.2.1 i.2.2.2.1 i.2.2.2.2.1 3 = some (i.2.2.2.2.2.1, i.2.2.2.2.2.2.1) ∧ overN i.1 i.2.1 (endM i.2.2.2.1 i.2.2.2.2.1 i.2.2.2.2.2.1 i.2.2.2.2.2.2.1) i.2.2.2.2.1 3 = [i.2.2.2.2.2.2.2])
    (fun i => .d (.tuple [ti (endM i.2.2.2.1 i.2.2.2.2.1 i.2.2.2.2.2.1 i.2.2.2.2.2.2.1), .int (i.2.2.2.2.2.1 * (i.2.2.1 / i.2.2.2.2.2.2.1)), .int i.2.2.2.2.2.2.2]))) := by
  obtain ⟨fd, F⟩ := T.D_law_pass
  refine ⟨_, fd, _, fun_pure F sc_law_pass (fun _ => rfl) (fun ⟨s', sc, N, pl, d, g, z, b⟩ cdv Ar outer s H E hC hr => ?_), T.g_law_pass, F.kp, F.bindsN (ps := ["_law_sides", "_law_scale", "_law_many_here", "_law_place", "_law_steps_here"]) fun _ _ _ _ _ _ us hl => match us, hl with | [_, _, _, _, _], _ => rfl⟩
  obtain ⟨h3, hBs, n0, n1, hp, hd, hB, hbest, hover⟩ := hC
  dsimp only at h3 hBs n0 n1 hp hd hB hbest hover
  obtain ⟨z0, z1⟩ := bestN_b hB hd (Nat.le_refl 3) hbest
  let R : VD := .d (.tuple [ti (endM pl d g z), .int (g * (N / z)), .int b])
  have bd : ∀ i : Nat, i < 3 → -1000 ≤ gi d (0 + (i : Int)) ∧ gi d (0 + (i : Int)) ≤ 1000 := fun i hi => hB.at (by omega) (by rw [hd]; omega)
  have bs : ∀ i : Nat, i < 3 → -1000 ≤ gi s' (0 + (i : Int)) ∧ gi s' (0 + (i : Int)) ≤ 1000 := fun i hi => hBs.at (by omega) (by rw [h3]; omega)
  have is : ∀ i : Nat, i < 3 → ixD (li s') (0 + (i : Int)) = some (.int (gi s' (0 + (i : Int)))) := fun i hi => ix_li (by omega) (by rw [h3]; omega)
  have ip : ∀ i : Nat, i < 3 → ixD (ti pl) (0 + (i : Int)) = some (.int (gi pl (0 + (i : Int)))) := fun i hi => ix_ti (by omega) (by rw [hp]; omega)
  have id' : ∀ i : Nat, i < 3 → ixD (ti d) (0 + (i : Int)) = some (.int (gi d (0 + (i : Int)))) := fun i hi => ix_ti (by omega) (by rw [hd]; omega)
  have ie : ∀ i : Nat, i < 3 → ixD (ti (endM pl d g z)) (0 + (i : Int)) = some (.int (gi (endM pl d g z) (0 + (i : Int)))) := fun i hi => ix_ti (by omega) (by rw [endM_len]; omega)
  refine s_cons (s_asg 5 sc_law_pass.nd x_non ?_)
  refine s_cons (s_for 6 (fun i G => ∃ o6 o7 o8, G = [some (.v (.d (li s'))), some (.v (.d (.int sc))), some (.v (.d (.int N))), some (.v (.d (ti pl))), some (.v (.d (ti d))), some (.v (bV (bestN s' sc pl d i))), o6, o7, o8, none, none]) PassesOwn.never rfl (wlk_rng1 (by omega)) sc_law_pass.nd (p_rng1 T.f_range x_int) ?_ ?_ ?_ ?_)
  · intro i G hG
    obtain ⟨o6, o7, o8, rfl⟩ := hG
    exact Nat.le_of_ble_eq_true rfl
  · exact ⟨none, none, none, rfl⟩
  · intro i G hi hG
    obtain ⟨o6, o7, o8, rfl⟩ := hG
    have hi : i < 3 := hi
    have q1 := bd i hi
    have q2 := bs i hi
    have eN : bestN s' sc pl d (i + 1) = bstep s' sc pl d (bestN s' sc pl d i) (0 + (i : Int)) := rfl
    refine s_one (s_if (t_neI (x_ix (x_var 4) (x_var 6) (by exact id' i hi)) x_int) ?_ ?_)
    · intro h
      have h : true = !decide (gi d (0 + (i : Int)) = 0) := h
      have hne : ¬ gi d (0 + (i : Int)) = 0 := fun z => by
        rw [decide_eq_true z] at h
        cases h
      unfold bstep at eN
      rw [if_neg hne] at eN
      refine s_cons (s_asg 7 sc_law_pass.nd (x_iteI (t_gt (x_ix (x_var 4) (x_var 6) (by exact id' i hi)) x_int) (fun h => (x_sub (x_mul (x_ix (x_var 0) (x_var 6) (by exact is i hi)) (x_var 1) (by exact .inl ⟨by omega, by omega⟩)) (x_ix (x_var 3) (x_var 6) (by exact ip i hi)))) (fun h => (x_ix (x_var 3) (x_var 6) (by exact ip i hi)))) ?_)
      refine s_cons (s_asg 8 sc_law_pass.nd (x_abs T.f_abs PyProof.Rows.boot_abs (x_ix (x_var 4) (x_var 6) (by exact id' i hi))) ?_)
      have hsz : (if gi d (0 + (i : Int)) < 0 then -gi d (0 + (i : Int)) else gi d (0 + (i : Int))) ≤ 1000 ∧ 0 < (if gi d (0 + (i : Int)) < 0 then -gi d (0 + (i : Int)) else gi d (0 + (i : Int))) := by split <;> omega
      rcases op_cases (bestN s' sc pl d i) with e | ⟨⟨g0, zz0⟩, e⟩
      · rw [e] at eN
        rw [e]
        refine s_one (s_if (w_or (k := true) (l := true) (t_isN (r := bV none) (x_var 5)) (fun h => by cases h)).pt ?_ ?_)
        · intro h
          refine s_one (s_asg 5 sc_law_pass.nd (x_tup (xp_cons (x_var 7) (xp_cons (x_var 8) xp_nil))) ?_)
          exact ⟨_, _, _, by rw [eN]; rfl⟩
        · intro h
          cases h
      · obtain ⟨b1, b2⟩ := bestN_b hB hd (by omega) e
        rw [e] at eN
        rw [e]
        dsimp only at eN
        refine s_one (s_if (w_or (k := false) (t_isN (r := bV (some (g0, zz0))) (x_var 5)) (fun _ => (w_or1 (t_lt (x_mul (x_var 7) (x_ix (z := .int zz0) (x_var 5) x_int (by rfl)) (by exact .inr ⟨by omega, by omega⟩)) (x_mul (x_ix (z := .int g0) (x_var 5) x_int (by rfl)) (x_var 8) (by exact .inr ⟨by omega, by omega⟩)))))).pt ?_ ?_)
        · intro h
          have h : true = (false || decide _) := h
          rw [if_pos (of_decide_eq_true (by rw [Bool.false_or] at h; exact h.symm))] at eN
          refine s_one (s_asg 5 sc_law_pass.nd (x_tup (xp_cons (x_var 7) (xp_cons (x_var 8) xp_nil))) ?_)
          exact ⟨_, _, _, by rw [eN]; rfl⟩
        · intro h
          have h : false = (false || decide _) := h
          rw [if_neg (of_decide_eq_false (by rw [Bool.false_or] at h; exact h.symm))] at eN
          refine s_nil ⟨_, _, _, by rw [eN]; rfl⟩
    · intro h
      have h : false = !decide (gi d (0 + (i : Int)) = 0) := h
      have he : gi d (0 + (i : Int)) = 0 := by
        cases q : decide (gi d (0 + (i : Int)) = 0) with
        | true => exact of_decide_eq_true q
        | false =>
          rw [q] at h
          cases h
      unfold bstep at eN
      rw [if_pos he] at eN
      refine s_nil ⟨_, _, _, by rw [eN]; rfl⟩
  · intro G hG
    obtain ⟨o6, o7, o8, rfl⟩ := hG
    rw [show bestN s' sc pl d (Int.toNat 3) = some (g, z) from hbest]
    refine s_cons (s_asg 9 sc_law_pass.nd (x_eq (x_tupL T.f_tuple PyProof.Rows.boot_tuple (x_n (n_lcD 6 (fun i => .int (gi pl (0 + (i : Int)) + gi d (0 + (i : Int)) * g / z)) rfl sc_law_pass.nd (wlk_rng1 (by omega)) (p_rng1 T.f_range x_int) (blkOk_by (N := N_law_pass) (sc := defScope st_law_pass) (own := [("_law_axis", 6)]) (by decide +kernel)) (fun _ _ _ _ _ => pg_name (i := 6) sc_law_pass.nd rfl (Or.inl rfl)) (fun i hi _ _ _ _ _ => (x_add (x_ix (x_var 3) (x_var 6) (by exact ip i hi)) (x_fdiv (x_mul (x_ix (x_var 4) (x_var 6) (by exact id' i hi)) (x_ix (z := .int g) (x_var 5) x_int (by rfl)) (by have := bd i hi; exact .inl ⟨by omega, by omega⟩)) (x_ix (z := .int z) (x_var 5) x_int (by rfl)) (by exact ⟨z0, by omega⟩)))) (by decide)))) (r' := .d (ti (endM pl d g z))) (by rfl)) ?_)
    refine s_cons (s_asgN 10 sc_law_pass.nd (n_lst xp_nil) (fun _ e => ?_))
    subst e
    refine s_cons (s_for 6 (fun i G => ∃ o6 o7 o8, G = [some (.v (.d (li s'))), some (.v (.d (.int sc))), some (.v (.d (.int N))), some (.v (.d (ti pl))), some (.v (.d (ti d))), some (.v (.d (.tuple [.int g, .int z]))), o6, o7, o8, some (.v (.d (ti (endM pl d g z)))), some (.mu ((overN s' sc (endM pl d g z) d i).map PyData.int))]) PassesOwn.never rfl (wlk_rng1 (by omega)) sc_law_pass.nd (p_rng1 T.f_range x_int) ?_ ?_ ?_ ?_)
    · intro i G hG
      obtain ⟨o6, o7, o8, rfl⟩ := hG
      exact Nat.le_of_ble_eq_true rfl
    · exact ⟨_, _, _, rfl⟩
    · intro i G hi hG
      obtain ⟨o6, o7, o8, rfl⟩ := hG
      have hi : i < 3 := hi
      have q1 := bd i hi
      have q2 := bs i hi
      have ol := @overN_len s' sc (endM pl d g z) d i
      have oa : (overA s' sc (endM pl d g z) d (0 + (i : Int))).length ≤ 1 := by unfold overA; split <;> simp
      let Gl : List Int → Gm := fun l => [some (.v (.d (li s'))), some (.v (.d (.int sc))), some (.v (.d (.int N))), some (.v (.d (ti pl))), some (.v (.d (ti d))), some (.v (.d (.tuple [.int g, .int z]))), some (.v (.d (.int (0 + (i : Int))))), o7, o8, some (.v (.d (ti (endM pl d g z)))), some (.mu (l.map PyData.int))]
      have fin : ∀ l : List Int, l = (overN s' sc (endM pl d g z) d i ++ overA s' sc (endM pl d g z) d (0 + (i : Int))) ++ overB (endM pl d g z) d (0 + (i : Int)) → ∃ p6 p7 p8, Gl l = [some (.v (.d (li s'))), some (.v (.d (.int sc))), some (.v (.d (.int N))), some (.v (.d (ti pl))), some (.v (.d (ti d))), some (.v (.d (.tuple [.int g, .int z]))), p6, p7, p8, some (.v (.d (ti (endM pl d g z)))), some (.mu ((overN s' sc (endM pl d g z) d (i + 1)).map PyData.int))] := fun l e => by
        subst e
        exact ⟨_, _, _, rfl⟩
      refine s_cons (s_ifJ Gl (fun l => l = overN s' sc (endM pl d g z) d i ++ overA s' sc (endM pl d g z) d (0 + (i : Int))) ?_ (w_and (t_gt (x_ix (x_var 4) (x_var 6) (by exact id' i hi)) x_int) (fun _ => (w_and1 (t_eqI (x_ix (x_var 9) (x_var 6) (by exact ie i hi)) (x_mul (x_ix (x_var 0) (x_var 6) (by exact is i hi)) (x_var 1) (by exact .inl ⟨by omega, by omega⟩)))))).pt ?_ ?_)
      · intro l el
        have ll : l.length ≤ 10 := by rw [el, List.length_append]; omega
        refine s_one (s_if (w_and (t_lt (x_ix (x_var 4) (x_var 6) (by exact id' i hi)) x_int) (fun _ => (w_and1 (t_eqI (x_ix (x_var 9) (x_var 6) (by exact ie i hi)) x_int)))).pt ?_ ?_)
        · intro h
          have h : true = (decide (gi d (0 + (i : Int)) < 0) && decide (gi (endM pl d g z) (0 + (i : Int)) = 0)) := h
          have h := He.ba h.symm
          have ea : overB (endM pl d g z) d (0 + (i : Int)) = [2 * (0 + (i : Int))] := if_pos ⟨of_decide_eq_true h.1, of_decide_eq_true h.2⟩
          refine s_one (s_append 10 (ds := l.map PyData.int) (x_mul x_int (x_var 6) (by exact .inl ⟨by omega, by omega⟩)) (by rw [List.length_map]; omega) ?_)
          have q := fin (l ++ [2 * (0 + (i : Int))]) (by rw [ea, el])
          obtain ⟨p6, p7, p8, q⟩ := q
          exact ⟨p6, p7, p8, by rw [← q]; show _ = Gl _; simp only [Gl, List.map_append]; rfl⟩
        · intro h
          have h : false = (decide (gi d (0 + (i : Int)) < 0) && decide (gi (endM pl d g z) (0 + (i : Int)) = 0)) := h
          have ea : overB (endM pl d g z) d (0 + (i : Int)) = [] := if_neg (fun z => by
            rw [decide_eq_true z.1, decide_eq_true z.2] at h
            cases h)
          exact s_nil (fin l (by rw [ea, el, List.append_nil]))
      · intro h
        have h : true = (decide (0 < gi d (0 + (i : Int))) && decide (gi (endM pl d g z) (0 + (i : Int)) = gi s' (0 + (i : Int)) * sc)) := h
        have h := He.ba h.symm
        have ea : overA s' sc (endM pl d g z) d (0 + (i : Int)) = [2 * (0 + (i : Int)) + 1] := if_pos ⟨of_decide_eq_true h.1, of_decide_eq_true h.2⟩
        refine s_one (s_append 10 (ds := (overN s' sc (endM pl d g z) d i).map PyData.int) (x_add (x_mul x_int (x_var 6) (by exact .inl ⟨by omega, by omega⟩)) x_int) (by rw [List.length_map]; omega) ?_)
        refine ⟨overN s' sc (endM pl d g z) d i ++ [2 * (0 + (i : Int)) + 1], by rw [ea], ?_⟩
        show _ = O.nx (Gl _)
        simp only [Gl, List.map_append]
        rfl
      · intro h
        have h : false = (decide (0 < gi d (0 + (i : Int))) && decide (gi (endM pl d g z) (0 + (i : Int)) = gi s' (0 + (i : Int)) * sc)) := h
        have ea : overA s' sc (endM pl d g z) d (0 + (i : Int)) = [] := if_neg (fun z => by
          rw [decide_eq_true z.1, decide_eq_true z.2] at h
          cases h)
        exact s_nil ⟨overN s' sc (endM pl d g z) d i, by rw [ea, List.append_nil], rfl⟩
    · intro G hG
      obtain ⟨o6, o7, o8, rfl⟩ := hG
      rw [show overN s' sc (endM pl d g z) d (Int.toNat 3) = [b] from hover]
      refine s_freeze 10 (ds := ([b] : List Int).map PyData.int) ?_
      exact s_one (s_ret (x_tup (xp_cons (x_var 9) (xp_cons (x_mul (x_ix (z := .int g) (x_var 5) x_int (by rfl)) (x_fdiv (x_var 2) (x_ix (z := .int z) (x_var 5) x_int (by rfl)) (by exact ⟨z0, by omega⟩)) (by exact .inr ⟨by have := Int.ediv_nonneg n0 (Int.le_of_lt z0); omega, by have := Int.ediv_le_self z n0; omega⟩)) (xp_cons (x_ifT (tdt_mono (t_eqI (x_len T.f_len true (ds := ([b] : List Int).map PyData.int) PySem.boot_len (x_var 10)) x_int) (fun k h => h)) (x_ix (z := .int b) (x_var 10) x_int (by rfl))) xp_nil)))) (by rfl))
end
end K27
set_option maxHeartbeats 4000000
/-! The law's own defs: units, rows. -/
namespace K27
open PySem PySem.Spec PyProof.Rows L2
local macro_rules | `(tactic| walk_at "c") => `(tactic| first | trivial | assumption | (dsimp only; (repeat' apply And.intro) <;> first | assumption | trivial | omega) | ((repeat' apply And.intro) <;> first | assumption | trivial | omega))
local macro_rules | `(tactic| walk_at "ix") => `(tactic| (try dsimp only); first | exact ix_ti (by omega) (by omega) | exact ix_li (by omega) (by omega) | exact ix_frames (by omega) (by omega) | rfl)
local macro_rules | `(tactic| walk_at "sx") => `(tactic| (try dsimp only); exact ixN_of (by omega) (by first | omega | (simp only [List.length_set, List.length_map, List.length_cons, List.length_nil]; omega)))
local macro_rules | `(tactic| walk_at "div") => `(tactic| (try dsimp only); first | exact ⟨by omega, by omega⟩ | omega)
local macro_rules | `(tactic| walk_at "mul") => `(tactic| (try dsimp only); first | exact .inl ⟨by omega, by omega⟩ | exact .inr ⟨by omega, by omega⟩)
def rowD (r : Int × List Int × Int × Int) : PyData := .tuple [.int r.1, ti r.2.1, .int r.2.2.1, .int r.2.2.2]
def flatD : PyData → Prop
  | .int _ => True
  | .tuple ds => ∃ l : List Int, ds = l.map PyData.int
  | _ => False
def cornV : Option Int → VD
  | none => .d .none
  | some c => .d (.int c)
section
variable {P : Program} {w : World} {K : PySem.W.Frag} {mg : Str → Option Value} {base : Heap} (T : Tx K mg)
include T
theorem c_law_unit_after : Cal P w K mg base 3 "_law_unit_after" (spP P w K (ι := List Int × Int × Int × Int × List Int × Int × List Int × Int × Int × Int) (fun i => [.d (li i.1), .d (ti [i.2.1, i.2.2.1]), .d (.tuple [.int i.2.2.2.1, ti i.2.2.2.2.1, .int i.2.2.2.2.2.1]), .d (ti i.2.2.2.2.2.2.1)])
    (fun i => i.1.length = 3 ∧ Bd 1000 i.1 ∧ -1000 ≤ i.2.1 ∧ i.2.1 ≤ 1000 ∧ 0 < manyM i.2.1 i.2.2.1 ∧ manyM i.2.1 i.2.2.1 ≤ 1000 ∧ 0 ≤ i.2.2.2.1 ∧ i.2.2.2.1 < 6 ∧ i.2.2.2.2.1.length = 3 ∧ Bd 1000 i.2.2.2.2.1 ∧ i.2.2.2.2.2.2.1.length = 3 ∧ bestN i.1 (2 * manyM i.2.1 i.2.2.1) i.2.2.2.2.2.2.1 i.2.2.2.2.1 3 = some (i.2.2.2.2.2.2.2.1, i.2.2.2.2.2.2.2.2.1) ∧
      overN i.1 (2 * manyM i.2.1 i.2.2.1) (endM i.2.2.2.2.2.2.1 i.2.2.2.2.1 i.2.2.2.2.2.2.2.1 i.2.2.2.2.2.2.2.2.1) i.2.2.2.2.1 3 = [i.2.2.2.2.2.2.2.2.2] ∧ 0 ≤ i.2.2.2.2.2.2.2.2.2 ∧ i.2.2.2.2.2.2.2.2.2 < 6)
    (fun i => .d (.tuple [.tuple [.int i.2.2.2.2.2.2.2.2.2, ti (goneM i.2.2.2.1 i.2.2.2.2.2.2.2.2.2 i.2.2.2.2.1), .int (idxM (manyM i.2.1 i.2.2.1) i.2.2.2.2.2.2.2.2.2 (goneM i.2.2.2.1 i.2.2.2.2.2.2.2.2.2 i.2.2.2.2.1) (endM i.2.2.2.2.2.2.1 i.2.2.2.2.1 i.2.2.2.2.2.2.2.1 i.2.2.2.2.2.2.2.2.1))], .int (i.2.2.2.2.2.2.2.1 * (manyM i.2.1 i.2.2.1 / i.2.2.2.2.2.2.2.2.1))]))) := by
  obtain ⟨fd, F⟩ := T.D_law_unit_after
  refine ⟨_, fd, _, fun_pure F sc_law_unit_after (fun _ => rfl) (fun ⟨s', p, q, f, d, k, pl, g, z, b⟩ cdv Ar outer s H E hC hr => ?_), T.g_law_unit_after, F.kp, F.bindsN (ps := ["_law_sides", "_law_slope", "_law_key", "_law_place"]) fun _ _ _ _ _ _ us hl => match us, hl with | [_, _, _, _], _ => rfl⟩
  obtain ⟨h3, hBs, p0, p1, n0, n1, h0, h6, hd, hB, hp, hbest, hover, b0, b6⟩ := hC
  dsimp only at h3 hBs p0 p1 n0 n1 h0 h6 hd hB hp hbest hover b0 b6
  have gB : Bd 1000 (goneM f b d) := goneM_bd (by decide) hB (by omega) (by omega)
  refine s_cons (s_asg 4 sc_law_unit_after.nd (x_call (c_law_many T) hr (p, q) (xa_cons (x_var 1) xa_nil) (by exact ⟨p0, p1⟩)) ?_)
  refine s_cons (s_unpack [5, 6, 7] rfl (x_call (c_law_pass T) hr (s', 2 * manyM p q, manyM p q, pl, d, g, z, b) (xa_cons (x_var 0) (xa_cons (x_mul x_int (x_var 4) (by exact .inl ⟨by omega, by omega⟩)) (xa_cons (x_var 4) (xa_cons (x_var 3) (xa_cons (x_ix (z := ti d) (x_var 2) x_int (by rfl)) xa_nil))))) (by exact ⟨h3, hBs, Int.le_of_lt n0, n1, hp, hd, hB, hbest, hover⟩)) (show PGs _ _ (gNs [5, 6, 7]) from (pgs_cons (pg_name (i := 5) sc_law_unit_after.nd rfl (Or.inl rfl)) (pgs_cons (pg_name (i := 6) sc_law_unit_after.nd rfl (Or.inl rfl)) (pgs_cons (pg_name (i := 7) sc_law_unit_after.nd rfl (Or.inl rfl)) pgs_nil)))) ?_)
  refine s_cons (s_asg 8 sc_law_unit_after.nd (x_call (c_law_over T) hr (f, b, d) (xa_cons (x_ix (z := .int f) (x_var 2) x_int (by rfl)) (xa_cons (x_var 7) (xa_cons (x_ix (z := ti d) (x_var 2) x_int (by rfl)) xa_nil))) (by exact ⟨h0, h6, b0, b6, hd⟩)) ?_)
  exact s_one (s_ret (x_tup (xp_cons (x_tup (xp_cons (x_var 7) (xp_cons (x_var 8) (xp_cons (x_fdiv (x_sub (x_fdiv (x_call (c_law_across T) hr (b, goneM f b d, false, endM pl d g z) (xa_cons (x_var 7) (xa_cons (x_var 8) (xa_cons (x_var 5) xa_nil))) (by exact ⟨b0, b6, by rw [goneM_len]; exact hd, endM_len, gB.mono (by decide)⟩)) (x_var 4) (by exact ⟨n0, Int.lt_of_le_of_lt n1 (by decide)⟩)) x_int) x_int (by walk_at "div")) xp_nil)))) (xp_cons (x_var 6) xp_nil))) (by rfl))
/-! ### tuples of ints -/
theorem c_tuples0 : Cal P w K mg base 1 "_law_tuples" (spP P w K (ι := Int) (fun i => [.d (.int i)]) (fun _ => True) (fun _ => .d (.bool true))) := by
  obtain ⟨fd, F⟩ := T.D_law_tuples
  refine ⟨_, fd, _, fun_pure F sc_law_tuples (fun _ => rfl) (fun j cdv Ar outer s H E hC hr => ?_), T.g_law_tuples, F.kp, F.bindsN (ps := ["_law_thing"]) fun _ _ _ _ _ _ us hl => match us, hl with | [_], _ => rfl⟩
  refine s_cons (s_if (t_v (x_isi T.f_isinstance (x_var 0) (c_ty T.f_tuple PyProof.Rows.boot_tuple) (by exact kq_int_tuple) PyProof.Rows.boot_isinstance)) (fun h => by cases h) (fun h => s_nil ?_))
  exact s_one (s_ret (x_or (x_isN (x_var 0)) (fun _ => x_one (x_and (x_isi T.f_isinstance (x_var 0) (c_ty T.f_int PyProof.Rows.boot_int) (by exact kq_int_int) PyProof.Rows.boot_isinstance) (fun _ => x_one (x_not (x_isi T.f_isinstance (x_var 0) (c_ty T.f_bool PyProof.Rows.boot_bool) (by exact kq_int_bool) PyProof.Rows.boot_isinstance)))))) (by rfl))
omit T in
theorem filter_no {n : Nat} {y : Nat → PyData} : ((List.range n).filter (fun _ => false)).map y = [] := by
  rw [List.filter_eq_nil_iff.mpr (fun a _ => by simp)]
  rfl
theorem c_tuples1 : Cal P w K mg base 2 "_law_tuples" (spP P w K (ι := List Int) (fun l => [.d (ti l)]) (fun l => l.length ≤ 1000) (fun _ => .d (.bool true))) := by
  obtain ⟨fd, F⟩ := T.D_law_tuples
  refine ⟨_, fd, _, fun_pure F sc_law_tuples (fun _ => rfl) (fun l cdv Ar outer s H E hC hr => ?_), T.g_law_tuples, F.kp, F.bindsN (ps := ["_law_thing"]) fun _ _ _ _ _ _ us hl => match us, hl with | [_], _ => rfl⟩
  have hC : l.length ≤ 1000 := hC
  refine s_cons (s_if (t_v (x_isi T.f_isinstance (x_var 0) (c_ty T.f_tuple PyProof.Rows.boot_tuple) (by exact kq_tuple_tuple) PyProof.Rows.boot_isinstance)) (fun h => ?_) (fun h => by cases h))
  refine s_one (s_ret (x_notL (x_n (n_lcF 1 (fun _ => false) (fun _ => .int 1) rfl sc_law_tuples.nd wlk_ti (p_tup (x_var 0)) (blkOk_by (N := N_law_tuples) (sc := defScope st_law_tuples) (own := [("_law_item", 1)]) (by decide +kernel)) (fun _ _ _ _ _ => pg_name (i := 1) sc_law_tuples.nd rfl (Or.inl rfl)) (fun i hi _ _ _ _ _ => (tdt_mono (t_not (t_v (x_call (c_tuples0 T) hr _ (xa_cons (x_var 1) xa_nil) (by trivial)))) (fun k h => h))) (fun i hi hf => by cases hf) (by omega)))) ?_)
  rw [filter_no]
  rfl
theorem c_tuplesR : Cal P w K mg base 3 "_law_tuples" (spP P w K (ι := Int × List Int × Int × Int) (fun r => [.d (rowD r)]) (fun r => r.2.1.length ≤ 1000) (fun _ => .d (.bool true))) := by
  obtain ⟨fd, F⟩ := T.D_law_tuples
  refine ⟨_, fd, _, fun_pure F sc_law_tuples (fun _ => rfl) (fun ⟨f, d, lo, hi⟩ cdv Ar outer s H E hC hr => ?_), T.g_law_tuples, F.kp, F.bindsN (ps := ["_law_thing"]) fun _ _ _ _ _ _ us hl => match us, hl with | [_], _ => rfl⟩
  have hC : d.length ≤ 1000 := hC
  refine s_cons (s_if (t_v (x_isi T.f_isinstance (x_var 0) (c_ty T.f_tuple PyProof.Rows.boot_tuple) (by exact kq_tuple_tuple) PyProof.Rows.boot_isinstance)) (fun h => ?_) (fun h => by cases h))
  refine s_one (s_ret (x_notL (x_n (n_lcF 1 (fun _ => false) (fun _ => .int 1) rfl sc_law_tuples.nd wlk_tup (p_tup (ds := [.int f, ti d, .int lo, .int hi]) (x_var 0)) (blkOk_by (N := N_law_tuples) (sc := defScope st_law_tuples) (own := [("_law_item", 1)]) (by decide +kernel)) (fun _ _ _ _ _ => pg_name (i := 1) sc_law_tuples.nd rfl (Or.inl rfl)) (fun i hi' _ _ _ _ _ => ?_) (fun i hi hf => by cases hf) (by show 4 ≤ 100000; decide)))) ?_)
  · have : i = 0 ∨ i = 1 ∨ i = 2 ∨ i = 3 := by
      have : i < 4 := hi'
      omega
    rcases this with rfl | rfl | rfl | rfl
    · exact tdt_mono (t_not (t_v (x_call (c_tuples0 T) hr f (xa_cons (x_var 1) xa_nil) (by trivial)))) (fun k h => h)
    · exact tdt_mono (t_not (t_v (x_call (c_tuples1 T) hr d (xa_cons (x_var 1) xa_nil) (by exact hC)))) (fun k h => h)
    · exact tdt_mono (t_not (t_v (x_call (c_tuples0 T) hr lo (xa_cons (x_var 1) xa_nil) (by trivial)))) (fun k h => h)
    · exact tdt_mono (t_not (t_v (x_call (c_tuples0 T) hr hi (xa_cons (x_var 1) xa_nil) (by trivial)))) (fun k h => h)
  · rw [filter_no]
    rfl
/-! ### rows -/
theorem c_law_strip_row : Cal P w K mg base 4 "_law_strip_row" (spP P w K (ι := Str4) (fun r => [stR K r]) (fun r => r.2.1.length ≤ 1000) (fun r => .d (rowD r))) := by
  obtain ⟨fd, F⟩ := T.D_law_strip_row
  refine ⟨_, fd, _, fun_pure F sc_law_strip_row (fun _ => rfl) (fun ⟨f, d, lo, hi⟩ cdv Ar outer s H E hC hr => ?_), T.g_law_strip_row, F.kp, F.bindsN (ps := ["_law_told"]) fun _ _ _ _ _ _ us hl => match us, hl with | [_], _ => rfl⟩
  refine s_cons (s_if (w_or (t_not (t_v (x_isiC T.f_isinstance PyProof.Rows.boot_isinstance T.ex2.2.1 T.g_Strip T.ex2.2.2.2.1 (x_var 0)))) (fun _ => w_or1 (t_not (t_v (x_call (c_tuplesR T) hr (f, d, lo, hi) (xa_cons (x_tup (xp_cons (x_fld (x_var 0) T.c_Strip T.n_Strip_face (by rfl)) (xp_cons (x_fld (x_var 0) T.c_Strip T.n_Strip_direction (by rfl)) (xp_cons (x_fld (x_var 0) T.c_Strip T.n_Strip_low (by rfl)) (xp_cons (x_fld (x_var 0) T.c_Strip T.n_Strip_high (by rfl)) xp_nil))))) xa_nil) (by exact hC)))))).pt (fun h => by cases h) (fun h => s_nil ?_))
  exact s_one (s_ret (x_tup (xp_cons (x_fld (x_var 0) T.c_Strip T.n_Strip_face (by rfl)) (xp_cons (x_fld (x_var 0) T.c_Strip T.n_Strip_direction (by rfl)) (xp_cons (x_fld (x_var 0) T.c_Strip T.n_Strip_low (by rfl)) (xp_cons (x_fld (x_var 0) T.c_Strip T.n_Strip_high (by rfl)) xp_nil))))) (by rfl))
theorem c_law_strip_back : Cal P w K mg base 1 "_law_strip_back" (spP P w K (ι := Str4) (fun r => [.d (rowD r)]) (fun r => r.2.1.length ≤ 1000) (fun r => .d (rowD (r.1, negL r.2.1, -r.2.2.2, -r.2.2.1)))) := by
  obtain ⟨fd, F⟩ := T.D_law_strip_back
  refine ⟨_, fd, _, fun_pure F sc_law_strip_back (fun _ => rfl) (fun ⟨f, d, lo, hi⟩ cdv Ar outer s H E hC hr => ?_), T.g_law_strip_back, F.kp, F.bindsN (ps := ["_law_row"]) fun _ _ _ _ _ _ us hl => match us, hl with | [_], _ => rfl⟩
  have hC : d.length ≤ 1000 := hC
  have e := range_map d (fun b => PyData.int (-b))
  have e2 : ti (negL d) = .tuple (d.map fun b => PyData.int (-b)) := by
    unfold negL ti
    rw [List.map_map]
    rfl
  exact s_one (s_ret (x_tup (xp_cons (x_ix (z := .int f) (x_var 0) x_int (by rfl)) (xp_cons (x_tupL T.f_tuple PyProof.Rows.boot_tuple (x_n (n_lcD 1 (fun i => .int (-d.getD i 0)) rfl sc_law_strip_back.nd wlk_ti (p_tup (x_ix (z := ti d) (x_var 0) x_int (by rfl))) (blkOk_by (N := N_law_strip_back) (sc := defScope st_law_strip_back) (own := [("_law_step", 1)]) (by decide +kernel)) (fun _ _ _ _ _ => pg_name (i := 1) sc_law_strip_back.nd rfl (Or.inl rfl)) (fun i hi _ _ _ _ _ => (x_neg (x_var 1))) (by omega)))) (xp_cons (x_neg (x_ix (z := .int hi) (x_var 0) x_int (by rfl))) (xp_cons (x_neg (x_ix (z := .int lo) (x_var 0) x_int (by rfl))) xp_nil))))) (by show _ = VD.d (.tuple [.int f, ti (negL d), .int (-hi), .int (-lo)]); rw [e2, ← e]))
theorem c_law_as_strip : Cal P w K mg base 3 "_law_as_strip" (spP P w K (ι := Str4) (fun r => [.d (rowD r)]) (fun _ => True) (fun r => stR K r)) := by
  obtain ⟨fd, F⟩ := T.D_law_as_strip
  refine ⟨_, fd, _, fun_pure F sc_law_as_strip (fun _ => rfl) (fun ⟨f, d, lo, hi⟩ cdv Ar outer s H E hC hr => ?_), T.g_law_as_strip, F.kp, F.bindsN (ps := ["_law_row"]) fun _ _ _ _ _ _ us hl => match us, hl with | [_], _ => rfl⟩
  exact s_one (s_ret (x_make (k_Strip T) hr (xp_cons (x_ix (z := .int f) (x_var 0) x_int (by rfl)) (xp_cons (x_ix (z := ti d) (x_var 0) x_int (by rfl)) (xp_cons (x_ix (z := .int lo) (x_var 0) x_int (by rfl)) (xp_cons (x_ix (z := .int hi) (x_var 0) x_int (by rfl)) xp_nil))))) (by rfl))
theorem c_law_goneS : Cal P w K mg base 5 "_law_gone" (spP P w K (ι := Str4) (fun r => [stR K r]) (fun r => r.2.1.length ≤ 1000) (fun r => .d (rowD r))) := by
  obtain ⟨fd, F⟩ := T.D_law_gone
  refine ⟨_, fd, _, fun_pure F sc_law_gone (fun _ => rfl) (fun ⟨f, d, lo, hi⟩ cdv Ar outer s H E hC hr => ?_), T.g_law_gone, F.kp, F.bindsN (ps := ["_law_told"]) fun _ _ _ _ _ _ us hl => match us, hl with | [_], _ => rfl⟩
  refine s_cons (s_if (t_v (x_isiC T.f_isinstance PyProof.Rows.boot_isinstance T.ex2.2.1 T.g_Split T.ex2.2.2.2.2.1 (x_var 0))) (fun h => by cases h) (fun h => s_nil ?_))
  exact s_one (s_ret (x_call (c_law_strip_row T) hr (f, d, lo, hi) (xa_cons (x_var 0) xa_nil) (by exact hC)) (by rfl))
theorem c_law_goneC : Cal P w K mg base 5 "_law_gone" (spP P w K (ι := Int) (fun c => [spV K (.int c)]) (fun _ => True) (fun c => .d (.tuple [.str "split", .int c]))) := by
  obtain ⟨fd, F⟩ := T.D_law_gone
  refine ⟨_, fd, _, fun_pure F sc_law_gone (fun _ => rfl) (fun c cdv Ar outer s H E hC hr => ?_), T.g_law_gone, F.kp, F.bindsN (ps := ["_law_told"]) fun _ _ _ _ _ _ us hl => match us, hl with | [_], _ => rfl⟩
  refine s_cons (s_if (t_v (x_isiC T.f_isinstance PyProof.Rows.boot_isinstance T.ex2.2.2.1 T.g_Split T.ex2.2.2.2.2.2.2.1 (x_var 0))) (fun h => ?_) (fun h => by cases h))
  exact s_one (s_ret (x_ifT (tdt_mono (t_v (x_call (c_law_is_int T) hr (.int c) (xa_cons (x_fld (x_var 0) T.c_Split T.n_Split_corner (by rfl)) xa_nil) (by trivial))) (fun k h => h)) (x_tup (xp_cons x_str (xp_cons (x_fld (x_var 0) T.c_Split T.n_Split_corner (by rfl)) xp_nil)))) (by rfl))
theorem c_law_corner_on : Cal P w K mg base 1 "_law_corner_on" (spP P w K (ι := List Int) (fun fs => [.d (li fs)]) (fun fs => fs.length ≤ 1000 ∧ ∀ f ∈ fs, 0 ≤ f ∧ f < 6) (fun fs => cornV (cornO fs))) := by
  obtain ⟨fd, F⟩ := T.D_law_corner_on
  refine ⟨_, fd, _, fun_pure F sc_law_corner_on (fun _ => rfl) (fun fs cdv Ar outer s H E hC hr => ?_), T.g_law_corner_on, F.kp, F.bindsN (ps := ["_law_faces"]) fun _ _ _ _ _ _ us hl => match us, hl with | [_], _ => rfl⟩
  obtain ⟨hl, hf⟩ := hC
  let L8 : List Int := [0, 1, 2, 3, 4, 5, 6, 7]
  have lg : ∀ i : Nat, i < 8 → L8.getD i 0 = 0 + (i : Int) := fun i hi => by
    have : i = 0 ∨ i = 1 ∨ i = 2 ∨ i = 3 ∨ i = 4 ∨ i = 5 ∨ i = 6 ∨ i = 7 := by omega
    rcases this with rfl | rfl | rfl | rfl | rfl | rfl | rfl | rfl <;> rfl
  refine s_cons (s_for 1 (fun i G => (∀ k, k < i → cornT fs (L8.getD k 0) = none) ∧ ∃ o1 o2, G = [some (.v (.d (li fs))), o1, o2, none]) PassesOwn.never rfl (wlk_rng1 (by omega)) sc_law_corner_on.nd (p_rng1 T.f_range x_int) ?_ ?_ ?_ ?_)
  · intro i G hG
    obtain ⟨_, o1, o2, rfl⟩ := hG
    exact Nat.le_of_ble_eq_true rfl
  · exact ⟨fun k hk => absurd hk (Nat.not_lt_zero k), none, none, rfl⟩
  · intro i G hi hG
    obtain ⟨hn, o1, o2, rfl⟩ := hG
    have hi : i < 8 := hi
    have e := range_filter fs (fun f => !decide (gi (cb2 (0 + (i : Int))) (f / 2) = f % 2)) (fun f => PyData.int f)
    have q : ∀ k, k < fs.length → 0 ≤ fs.getD k 0 ∧ fs.getD k 0 < 6 := fun k hk => hf _ (getD_mem hk)
    refine s_cons (s_asg 2 sc_law_corner_on.nd (x_eq (x_tup (xp_cons (x_fdiv (x_var 1) x_int (by walk_at "div")) (xp_cons (x_mod (x_int1 T.f_int PyProof.Rows.boot_int (x_fdiv (x_var 1) x_int (by walk_at "div"))) x_int (by walk_at "div")) (xp_cons (x_mod (x_int1 T.f_int PyProof.Rows.boot_int (x_var 1)) x_int (by walk_at "div")) xp_nil)))) (r' := .d (ti (cb2 (0 + (i : Int))))) (by rfl)) ?_)
    refine s_one (s_if (t_eqD hr (x_eq (x_n (n_lcF 3 (fun k => !decide (gi (cb2 (0 + (i : Int))) (fs.getD k 0 / 2) = fs.getD k 0 % 2)) (fun k => .int (fs.getD k 0)) rfl sc_law_corner_on.nd wlk_li (p_lst (x_var 0)) (blkOk_by (N := N_law_corner_on) (sc := defScope st_law_corner_on) (own := [("_law_face", 3)]) (by decide +kernel)) (fun _ _ _ _ _ => pg_name (i := 3) sc_law_corner_on.nd rfl (Or.inl rfl)) (fun k hk _ _ _ _ _ => (t_neI (x_ix (x_var 2) (x_fdiv (x_var 3) x_int (by walk_at "div")) (by have := q k hk; exact ix_ti (l := cb2 (0 + (i : Int))) (by omega) (by show _ < (3 : Int); omega))) (x_mod (x_int1 T.f_int PyProof.Rows.boot_int (x_var 3)) x_int (by walk_at "div")))) (fun k hk hf _ _ _ _ _ => (x_var 3)) (by omega))) (r' := .d (li (fs.filter fun f => !decide (gi (cb2 (0 + (i : Int))) (f / 2) = f % 2)))) (congrArg (fun l => VD.d (.list l)) e)) (x_lst (ds := ([] : List Int).map PyData.int) xp_nil) shaped_li (shaped_li (l := []))) ?_ ?_)
    · intro h
      have h : true = PyData.eqv (li (fs.filter fun f => !decide (gi (cb2 (0 + (i : Int))) (f / 2) = f % 2))) (li []) := h
      rw [eqv_li] at h
      have e1 : cornT fs (L8.getD i 0) = some (0 + (i : Int)) := by
        rw [lg i hi]
        exact if_pos (of_decide_eq_true h.symm)
      have e2 : cornO fs = some (0 + (i : Int)) := fstM_at hn hi e1
      refine s_one (s_ret (x_var 1) ?_)
      show _ = cornV (cornO fs)
      rw [e2]
      rfl
    · intro h
      have h : false = PyData.eqv (li (fs.filter fun f => !decide (gi (cb2 (0 + (i : Int))) (f / 2) = f % 2))) (li []) := h
      rw [eqv_li] at h
      refine s_nil ⟨fun k hk => ?_, _, _, rfl⟩
      by_cases ek : k = i
      · subst ek
        rw [lg k hi]
        exact if_neg (of_decide_eq_false h.symm)
      · exact hn k (by omega)
  · intro G hG
    obtain ⟨hn, o1, o2, rfl⟩ := hG
    have e2 : cornO fs = none := fstM_none (t := cornT fs) (l := L8) hn
    refine s_one (s_ret x_non ?_)
    show _ = cornV (cornO fs)
    rw [e2]
    rfl
end
end K27
set_option maxHeartbeats 4000000
/-! The law's own defs: what a strip is followed by. -/
namespace K27
open PySem PySem.Spec PyProof.Rows L2
local macro_rules | `(tactic| walk_at "c") => `(tactic| first | trivial | assumption | (dsimp only; (repeat' apply And.intro) <;> first | assumption | trivial | omega) | ((repeat' apply And.intro) <;> first | assumption | trivial | omega))
local macro_rules | `(tactic| walk_at "ix") => `(tactic| (try dsimp only); first | exact ix_ti (by omega) (by omega) | exact ix_li (by omega) (by omega) | exact ix_frames (by omega) (by omega) | rfl)
local macro_rules | `(tactic| walk_at "sx") => `(tactic| (try dsimp only); exact ixN_of (by omega) (by first | omega | (simp only [List.length_set, List.length_map, List.length_cons, List.length_nil]; omega)))
local macro_rules | `(tactic| walk_at "div") => `(tactic| (try dsimp only); first | exact ⟨by omega, by omega⟩ | omega)
local macro_rules | `(tactic| walk_at "mul") => `(tactic| (try dsimp only); first | exact .inl ⟨by omega, by omega⟩ | exact .inr ⟨by omega, by omega⟩)
def keyN (f : Int) (d : List Int) (k : Int) : List NestedKey := [.num f, .tup (d.map NestedKey.num), .num k]
theorem keysD_num : ∀ d : List Int, keyD.keysD (d.map NestedKey.num) = d.map PyData.int
  | [] => rfl
  | x :: r => by
    show PyData.int x :: keyD.keysD (r.map NestedKey.num) = _
    rw [keysD_num r]
    rfl
theorem keyN_D (f : Int) (d : List Int) (k : Int) : keyD (.tup (keyN f d k)) = .tuple [.int f, ti d, .int k] := by
  show PyData.tuple [.int f, .tuple (keyD.keysD (d.map NestedKey.num)), .int k] = _
  rw [keysD_num]
theorem depth_num : ∀ d : List Int, NestedKey.depthAll (d.map NestedKey.num) = 0
  | [] => rfl
  | x :: r => by
    show max 0 (NestedKey.depthAll (r.map NestedKey.num)) = 0
    rw [depth_num r]
    rfl
theorem keyN_8 (f : Int) (d : List Int) (k : Int) : (NestedKey.tup (keyN f d k)).depth ≤ 8 := by
  show max 0 (max (NestedKey.depthAll (d.map NestedKey.num) + 1) (max 0 0)) + 1 ≤ 8
  rw [depth_num]
  decide
def findK (kvs : List (NestedKey × PyData)) (f : Int) (d : List Int) (k : Int) : Option PyData := (kvs.find? fun kv => decide (kv.1 = .tup (keyN f d k))).map (·.2)
/-- where a unit goes -/
def UA (s : List Int) (p q f : Int) (d pl : List Int) (b k : Int) : Prop := pl.length = 3 ∧ 0 ≤ b ∧ b < 6 ∧ ∃ g z, bestN s (2 * manyM p q) pl d 3 = some (g, z) ∧ overN s (2 * manyM p q) (endM pl d g z) d 3 = [b] ∧ idxM (manyM p q) b (goneM f b d) (endM pl d g z) = k
def UOk (s : List Int) (p q : Int) (kvs : List (NestedKey × PyData)) (f : Int) (d : List Int) (k b k' : Int) : Prop := ∃ pl, findK kvs f d k = some (ti pl) ∧ UA s p q f d pl b k'
structure Pre (s : List Int) (p q : Int) : Prop where
  h3 : s.length = 3
  hs : Bd 1000 s
  p0 : -1000 ≤ p
  p1 : p ≤ 1000
  n0 : 0 < manyM p q
  n1 : manyM p q ≤ 1000
structure Pr2 (f : Int) (d : List Int) : Prop where
  h0 : 0 ≤ f
  h6 : f < 6
  hd : d.length = 3
  hB : Bd 1000 d
def cornD : Option Int → PyData
  | none => .none
  | some c => .int c
def afT (f : Int) (d : List Int) (b1 k1 b2 k2 : Int) : PyData := if b1 = b2 then rowD (b1, goneM f b1 d, k1, k2 + 1) else .tuple [.str "split", cornD (cornO [f, b1, b2])]
def beT (x : PyData) : PyData := match x with
  | .tuple [.int b, .tuple ds, .int lo, .int hi] => rowD (b, negL (ds.map intD), -hi, -lo)
  | y => y
theorem sh_split : SeqAt.shaped (.str "split") = true := by decide +kernel
theorem Pr2.neg {f : Int} {d : List Int} (h : Pr2 f d) : Pr2 f (negL d) := ⟨h.h0, h.h6, by rw [negL_len]; exact h.hd, h.hB.neg⟩
theorem map_intD (l : List Int) : (l.map PyData.int).map intD = l := by
  rw [List.map_map]
  show l.map id = l
  rw [List.map_id]
theorem beT_row (r : Int × List Int × Int × Int) : beT (rowD r) = rowD (r.1, negL r.2.1, -r.2.2.2, -r.2.2.1) := by
  obtain ⟨b, d, lo, hi⟩ := r
  show rowD (b, negL ((d.map PyData.int).map intD), -hi, -lo) = _
  rw [map_intD]
section
variable {P : Program} {w : World} {K : PySem.W.Frag} {mg : Str → Option Value} {base : Heap} (T : Tx K mg)
include T
theorem c_lawAfter : Cal P w K mg base 4 "_law_strip_after" (spP P w K (ι := (List Int × Int × Int × List (NestedKey × PyData)) × Str4 × Int × Int × Int × Int) (fun i => [.d (li i.1.1), .d (ti [i.1.2.1, i.1.2.2.1]), .dc i.1.2.2.2, .d (rowD i.2.1)])
    (fun i => Pre i.1.1 i.1.2.1 i.1.2.2.1 ∧ Pr2 i.2.1.1 i.2.1.2.1 ∧ UOk i.1.1 i.1.2.1 i.1.2.2.1 i.1.2.2.2 i.2.1.1 i.2.1.2.1 i.2.1.2.2.1 i.2.2.1 i.2.2.2.1 ∧ UOk i.1.1 i.1.2.1 i.1.2.2.1 i.1.2.2.2 i.2.1.1 i.2.1.2.1 (i.2.1.2.2.2 - 1) i.2.2.2.2.1 i.2.2.2.2.2)
    (fun i => .d (afT i.2.1.1 i.2.1.2.1 i.2.2.1 i.2.2.2.1 i.2.2.2.2.1 i.2.2.2.2.2))) := by
  obtain ⟨fd, F⟩ := T.D_law_strip_after
  refine ⟨_, fd, _, fun_pure F sc_law_strip_after (fun _ => rfl) (fun ⟨⟨s', p, q, kvs⟩, ⟨f, d, lo, hi⟩, b1, k1, b2, k2⟩ cdv Ar outer s H E hC hr => ?_), T.g_law_strip_after, F.kp, F.bindsN (ps := ["_law_sides", "_law_slope", "_law_units_here", "_law_row"]) fun _ _ _ _ _ _ us hl => match us, hl with | [_, _, _, _], _ => rfl⟩
  obtain ⟨hP, h2, ⟨pl1, e1, l1, c0, c6, g1, z1, x1, y1, i1⟩, ⟨pl2, e2, l2, d0, d6, g2, z2, x2, y2, i2⟩⟩ := hC
  dsimp only at hP h2 e1 l1 c0 c6 x1 y1 i1 e2 l2 d0 d6 x2 y2 i2
  refine s_cons (s_unpack [4, 5, 6, 7] (ds := [.int f, ti d, .int lo, .int hi]) rfl (x_var 3) (show PGs _ _ (gNs [4, 5, 6, 7]) from (pgs_cons (pg_name (i := 4) sc_law_strip_after.nd rfl (Or.inl rfl)) (pgs_cons (pg_name (i := 5) sc_law_strip_after.nd rfl (Or.inl rfl)) (pgs_cons (pg_name (i := 6) sc_law_strip_after.nd rfl (Or.inl rfl)) (pgs_cons (pg_name (i := 7) sc_law_strip_after.nd rfl (Or.inl rfl)) pgs_nil))))) ?_)
  refine s_cons (s_asg 8 sc_law_strip_after.nd (x_ix (z := .tuple [.int b1, ti (goneM f b1 d), .int k1]) (x_call (c_law_unit_after T) hr (s', p, q, f, d, lo, pl1, g1, z1, b1) (xa_cons (x_var 0) (xa_cons (x_var 1) (xa_cons (x_tup (xp_cons (x_var 4) (xp_cons (x_var 5) (xp_cons (x_var 6) xp_nil)))) (xa_cons (x_ixDc (keyN f d lo) hr (x_var 2) (x_eq (x_tup (xp_cons (x_var 4) (xp_cons (x_var 5) (xp_cons (x_var 6) xp_nil)))) (congrArg VD.d (keyN_D f d lo).symm)) (keyN_8 _ _ _) e1) xa_nil)))) (by exact ⟨hP.h3, hP.hs, hP.p0, hP.p1, hP.n0, hP.n1, h2.h0, h2.h6, h2.hd, h2.hB, l1, x1, y1, c0, c6⟩)) x_int (by rw [← i1]; rfl)) ?_)
  refine s_cons (s_asg 9 sc_law_strip_after.nd (x_ix (z := .tuple [.int b2, ti (goneM f b2 d), .int k2]) (x_call (c_law_unit_after T) hr (s', p, q, f, d, hi - 1, pl2, g2, z2, b2) (xa_cons (x_var 0) (xa_cons (x_var 1) (xa_cons (x_tup (xp_cons (x_var 4) (xp_cons (x_var 5) (xp_cons (x_sub (x_var 7) x_int) xp_nil)))) (xa_cons (x_ixDc (keyN f d (hi - 1)) hr (x_var 2) (x_eq (x_tup (xp_cons (x_var 4) (xp_cons (x_var 5) (xp_cons (x_sub (x_var 7) x_int) xp_nil)))) (congrArg VD.d (keyN_D f d (hi - 1)).symm)) (keyN_8 _ _ _) e2) xa_nil)))) (by exact ⟨hP.h3, hP.hs, hP.p0, hP.p1, hP.n0, hP.n1, h2.h0, h2.h6, h2.hd, h2.hB, l2, x2, y2, d0, d6⟩)) x_int (by rw [← i2]; rfl)) ?_)
  refine s_cons (s_if (t_eqI (x_ix (z := .int b1) (x_var 8) x_int (by rfl)) (x_ix (z := .int b2) (x_var 9) x_int (by rfl))) ?_ ?_)
  · intro h
    have h : b1 = b2 := of_decide_eq_true (show true = decide (b1 = b2) from h).symm
    refine s_one (s_ret (x_tup (xp_cons (x_ix (z := .int b1) (x_var 8) x_int (by rfl)) (xp_cons (x_ix (z := ti (goneM f b1 d)) (x_var 8) x_int (by rfl)) (xp_cons (x_ix (z := .int k1) (x_var 8) x_int (by rfl)) (xp_cons (x_add (x_ix (z := .int k2) (x_var 9) x_int (by rfl)) x_int) xp_nil))))) ?_)
    show _ = VD.d (afT f d b1 k1 b2 k2)
    unfold afT
    rw [if_pos h]
    rfl
  · intro h
    have h : ¬ b1 = b2 := of_decide_eq_false (show false = decide (b1 = b2) from h).symm
    have ec : afT f d b1 k1 b2 k2 = .tuple [.str "split", cornD (cornO [f, b1, b2])] := if_neg h
    have hv : cornV (cornO [f, b1, b2]) = .d (cornD (cornO [f, b1, b2])) := by cases cornO [f, b1, b2] <;> rfl
    refine s_nil (s_one (s_ret (x_tup (xp_cons x_str (xp_cons (x_eq (x_call (c_law_corner_on T) hr [f, b1, b2] (xa_cons (x_lst (xp_cons (x_var 4) (xp_cons (x_ix (z := .int b1) (x_var 8) x_int (by rfl)) (xp_cons (x_ix (z := .int b2) (x_var 9) x_int (by rfl)) xp_nil)))) xa_nil) (by
      refine ⟨by show 3 ≤ 1000; decide, fun x hx => ?_⟩
      rcases List.mem_cons.mp hx with rfl | hx
      · exact ⟨h2.h0, h2.h6⟩
      · rcases List.mem_cons.mp hx with rfl | hx
        · exact ⟨c0, c6⟩
        · rw [List.mem_singleton.mp hx]
          exact ⟨d0, d6⟩)) hv) xp_nil))) ?_))
    show _ = VD.d (afT f d b1 k1 b2 k2)
    rw [ec]
theorem c_lawBefore : Cal P w K mg base 5 "_law_strip_before" (spP P w K (ι := (List Int × Int × Int × List (NestedKey × PyData)) × Str4 × Int × Int × Int × Int) (fun i => [.d (li i.1.1), .d (ti [i.1.2.1, i.1.2.2.1]), .dc i.1.2.2.2, .d (rowD i.2.1)])
    (fun i => Pre i.1.1 i.1.2.1 i.1.2.2.1 ∧ Pr2 i.2.1.1 i.2.1.2.1 ∧ UOk i.1.1 i.1.2.1 i.1.2.2.1 i.1.2.2.2 i.2.1.1 (negL i.2.1.2.1) (-i.2.1.2.2.2) i.2.2.1 i.2.2.2.1 ∧ UOk i.1.1 i.1.2.1 i.1.2.2.1 i.1.2.2.2 i.2.1.1 (negL i.2.1.2.1) (-i.2.1.2.2.1 - 1) i.2.2.2.2.1 i.2.2.2.2.2)
    (fun i => .d (beT (afT i.2.1.1 (negL i.2.1.2.1) i.2.2.1 i.2.2.2.1 i.2.2.2.2.1 i.2.2.2.2.2)))) := by
  obtain ⟨fd, F⟩ := T.D_law_strip_before
  refine ⟨_, fd, _, fun_pure F sc_law_strip_before (fun _ => rfl) (fun ⟨⟨s', p, q, kvs⟩, ⟨f, d, lo, hi⟩, b1, k1, b2, k2⟩ cdv Ar outer s H E hC hr => ?_), T.g_law_strip_before, F.kp, F.bindsN (ps := ["_law_sides", "_law_slope", "_law_units_here", "_law_row"]) fun _ _ _ _ _ _ us hl => match us, hl with | [_, _, _, _], _ => rfl⟩
  obtain ⟨hP, h2, u1, u2⟩ := hC
  dsimp only at hP h2 u1 u2
  have dl : d.length ≤ 1000 := by rw [h2.hd]; decide
  refine s_cons (s_asg 4 sc_law_strip_before.nd (x_call (c_lawAfter T) hr ((s', p, q, kvs), (f, negL d, -hi, -lo), b1, k1, b2, k2) (xa_cons (x_var 0) (xa_cons (x_var 1) (xa_cons (x_var 2) (xa_cons (x_call (c_law_strip_back T) hr (f, d, lo, hi) (xa_cons (x_var 3) xa_nil) (by exact dl)) xa_nil)))) (by exact ⟨hP, h2.neg, u1, u2⟩)) ?_)
  by_cases e : b1 = b2
  · have ea : afT f (negL d) b1 k1 b2 k2 = rowD (b1, goneM f b1 (negL d), k1, k2 + 1) := if_pos e
    have gl : (goneM f b1 (negL d)).length ≤ 1000 := by rw [goneM_len, negL_len]; exact dl
    have eb : beT (afT f (negL d) b1 k1 b2 k2) = _ := (congrArg beT ea).trans (beT_row _)
    refine s_one (s_ret (x_ifF (tdt_mono (t_eqD (z := .str "split") hr (x_ix (z := .int b1) (x_eq (x_var 4) (congrArg VD.d ea)) x_int (by rfl)) x_str (by rfl) sh_split) (fun k h => by rw [h]; rfl)) (x_call (c_law_strip_back T) hr (b1, goneM f b1 (negL d), k1, k2 + 1) (xa_cons (x_eq (x_var 4) (congrArg VD.d ea)) xa_nil) (by exact gl))) ?_)
    show _ = VD.d (beT (afT f (negL d) b1 k1 b2 k2))
    rw [eb]
  · have ea : afT f (negL d) b1 k1 b2 k2 = .tuple [.str "split", cornD (cornO [f, b1, b2])] := if_neg e
    have eb : beT (afT f (negL d) b1 k1 b2 k2) = .tuple [.str "split", cornD (cornO [f, b1, b2])] := by
      rw [ea]
      rfl
    refine s_one (s_ret (x_ifT (tdt_mono (t_eqD (z := .str "split") hr (x_ix (z := .str "split") (x_eq (x_var 4) (congrArg VD.d ea)) x_int (by rfl)) x_str sh_split sh_split) (fun k h => by rw [h]; decide +kernel)) (x_eq (x_var 4) (congrArg VD.d ea))) ?_)
    show _ = VD.d (beT (afT f (negL d) b1 k1 b2 k2))
    rw [eb]
end
end K27
set_option maxHeartbeats 4000000
/-! The law's own defs: steps_right. -/
namespace K27
open PySem PySem.Spec PyProof.Rows L2
local macro_rules | `(tactic| walk_at "c") => `(tactic| first | trivial | assumption | (dsimp only; (repeat' apply And.intro) <;> first | assumption | trivial | omega) | ((repeat' apply And.intro) <;> first | assumption | trivial | omega))
local macro_rules | `(tactic| walk_at "ix") => `(tactic| (try dsimp only); first | exact ix_ti (by omega) (by omega) | exact ix_li (by omega) (by omega) | exact ix_frames (by omega) (by omega) | rfl)
local macro_rules | `(tactic| walk_at "sx") => `(tactic| (try dsimp only); exact ixN_of (by omega) (by first | omega | (simp only [List.length_set, List.length_map, List.length_cons, List.length_nil]; omega)))
local macro_rules | `(tactic| walk_at "div") => `(tactic| (try dsimp only); first | exact ⟨by omega, by omega⟩ | omega)
local macro_rules | `(tactic| walk_at "mul") => `(tactic| (try dsimp only); first | exact .inl ⟨by omega, by omega⟩ | exact .inr ⟨by omega, by omega⟩)
def backR (r : Str4) : Str4 := (r.1, negL r.2.1, -r.2.2.2, -r.2.2.1)
structure OkR (s : List Int) (r : Str4) : Prop where
  ck : ckR s (.int r.1) (.int r.2.2.1) (.int r.2.2.2) r.2.1 = .ok r
  pr : Pr2 r.1 r.2.1
def onwR (s : List Int) (r : Str4) : Option Str4 := onwM s r.1 r.2.1 r.2.2.1 r.2.2.2
def Aft1 (s : List Int) (r : Str4) (b1 k1 b2 k2 : Int) : Option Str4 → Prop
  | none => b1 ≠ b2 ∧ cornO [r.1, b1, b2] = some (splC r.1 r.2.1)
  | some z => b1 = b2 ∧ z = (b1, goneM r.1 b1 r.2.1, k1, k2 + 1) ∧ OkR s z ∧ OkR s (backR z) ∧ onwR s (backR z) = some (backR r)
structure Aft (s : List Int) (p q : Int) (kvs : List (NestedKey × PyData)) (r : Str4) (b1 k1 b2 k2 : Int) : Prop where
  u1 : UOk s p q kvs r.1 r.2.1 r.2.2.1 b1 k1
  u2 : UOk s p q kvs r.1 r.2.1 (r.2.2.2 - 1) b2 k2
  go : Aft1 s r b1 k1 b2 k2 (onwR s r)
theorem negneg (d : List Int) : negL (negL d) = d := by
  unfold negL
  rw [List.map_map]
  have : (fun x => -x) ∘ (fun x : Int => -x) = id := by
    funext x
    show - -x = x
    omega
  rw [this, List.map_id]
theorem backback (r : Str4) : backR (backR r) = r := by
  obtain ⟨f, d, lo, hi⟩ := r
  show (f, negL (negL d), - -lo, - -hi) = _
  rw [negneg, Int.neg_neg, Int.neg_neg]
theorem depth_ti (l : List Int) : (ti l).depth ≤ 2 := by
  have h2 : ∀ m : List Int, PyData.depthAll (m.map PyData.int) ≤ 1 := fun m => by
    induction m with
    | nil => decide
    | cons x r ih =>
      rw [List.map_cons, PyData.depthAll, PyData.depth]
      omega
  have := h2 l
  show (PyData.tuple (l.map PyData.int)).depth ≤ 2
  rw [PyData.depth]
  omega
theorem can_ti (l : List Int) : (ti l).canLay0 = true := (He.ba (shaped_ti (l := l))).1
theorem d_int (i : Int) : (PyData.int i).depth = 0 := by rw [PyData.depth]
theorem shaped_row (r : Str4) : SeqAt.shaped (rowD r) = true := by
  obtain ⟨f, d, lo, hi⟩ := r
  have h := depth_ti d
  have h1 : (PyData.canLayAll0 [PyData.int f, ti d, PyData.int lo, PyData.int hi]) = true := by
    rw [PyData.canLayAll0, PyData.canLayAll0, can_ti]
    rfl
  have h2 : PyData.depthAll [PyData.int f, ti d, PyData.int lo, PyData.int hi] ≤ 2 := by
    rw [PyData.depthAll, PyData.depthAll, PyData.depthAll, PyData.depthAll, PyData.depthAll, d_int, d_int, d_int]
    omega
  unfold SeqAt.shaped rowD
  rw [PyData.canLay0, PyData.depth]
  dsimp only
  rw [h1]
  exact decide_eq_true (by omega)
theorem shaped_spl (c : Int) : SeqAt.shaped (.tuple [.str "split", .int c]) = true := by
  have h := (He.ba sh_split).1
  unfold SeqAt.shaped
  rw [PyData.canLay0, PyData.canLayAll0, h, PyData.depth, PyData.depthAll, PyData.depthAll, PyData.depthAll, d_int]
  have e : (PyData.str "split").depth = 0 := by rw [PyData.depth]
  rw [e]
  rfl
theorem eqv_self {x : PyData} (h : SeqAt.shaped x = true) : PyData.eqv x x = true := SeqAt.eqv_refl x (SeqAt.canLay_of_shaped h)
section
variable {P : Program} {w : World} {K : PySem.W.Frag} {mg : Str → Option Value} {base : Heap} (T : Tx K mg)
include T
omit T in
theorem aft_none {s : List Int} {r : Str4} (h : onwR s r = none) : aftV K s r = spV K (.int (splC r.1 r.2.1)) := by
  unfold aftV
  rw [show onwM s r.1 r.2.1 r.2.2.1 r.2.2.2 = none from h]
omit T in
theorem aft_some {s : List Int} {r z : Str4} (h : onwR s r = some z) : aftV K s r = stR K z := by
  unfold aftV
  rw [show onwM s r.1 r.2.1 r.2.2.1 r.2.2.2 = some z from h]
  rfl
omit T in
theorem bef_none {s : List Int} {r : Str4} (h : onwR s (backR r) = none) : befV K s r = spV K (.int (splC r.1 (negL r.2.1))) := by
  unfold befV
  rw [show onwM s r.1 (negL r.2.1) (-r.2.2.2) (-r.2.2.1) = none from h]
omit T in
theorem bef_some {s : List Int} {r z : Str4} (h : onwR s (backR r) = some z) : befV K s r = stR K (backR z) := by
  unfold befV
  rw [show onwM s r.1 (negL r.2.1) (-r.2.2.2) (-r.2.2.1) = some z from h]
  rfl
omit T in
theorem aft_row {s : List Int} {r z : Str4} {b1 k1 b2 k2 : Int} (h : Aft1 s r b1 k1 b2 k2 (some z)) : afT r.1 r.2.1 b1 k1 b2 k2 = rowD z := by
  obtain ⟨h1, h2, _⟩ := h
  rw [h2]
  exact if_pos h1
omit T in
theorem aft_spl {s : List Int} {r : Str4} {b1 k1 b2 k2 : Int} (h : Aft1 s r b1 k1 b2 k2 none) : afT r.1 r.2.1 b1 k1 b2 k2 = .tuple [.str "split", .int (splC r.1 r.2.1)] := by
  obtain ⟨h1, h2⟩ := h
  unfold afT
  rw [if_neg h1, h2]
  rfl
theorem c_steps_right : Cal P w K mg base 11 "_law_steps_right" (spP P w K (ι := (List Int × Int × Int × List (NestedKey × PyData)) × Str4 × (Int × Int × Int × Int) × (Int × Int × Int × Int)) (fun i => [bxV K i.1.1, .d (li i.1.1), .d (ti [i.1.2.1, i.1.2.2.1]), .dc i.1.2.2.2, .d (rowD i.2.1)])
    (fun i => Pre i.1.1 i.1.2.1 i.1.2.2.1 ∧ OkR i.1.1 i.2.1 ∧ OkR i.1.1 (backR i.2.1) ∧ Aft i.1.1 i.1.2.1 i.1.2.2.1 i.1.2.2.2 i.2.1 i.2.2.1.1 i.2.2.1.2.1 i.2.2.1.2.2.1 i.2.2.1.2.2.2 ∧ Aft i.1.1 i.1.2.1 i.1.2.2.1 i.1.2.2.2 (backR i.2.1) i.2.2.2.1 i.2.2.2.2.1 i.2.2.2.2.2.1 i.2.2.2.2.2.2)
    (fun _ => .d (.bool true))) := by
  obtain ⟨fd, F⟩ := T.D_law_steps_right
  refine ⟨_, fd, _, fun_pure F sc_law_steps_right (fun _ => rfl) (fun ⟨⟨s', p, q, kvs⟩, r, ⟨b1, k1, b2, k2⟩, ⟨c1, l1, c2, l2⟩⟩ cdv Ar outer s H E hC hr => ?_), T.g_law_steps_right, F.kp, F.bindsN (ps := ["_law_box", "_law_sides", "_law_slope", "_law_units_here", "_law_row"]) fun _ _ _ _ _ _ us hl => match us, hl with | [_, _, _, _, _], _ => rfl⟩
  obtain ⟨hP, o1, o2, A1, A2⟩ := hC
  dsimp only at hP o1 o2 A1 A2
  have cs : ∀ {r : Str4}, OkR s' r → s'.length = 3 ∧ (wholeD (.int r.1) 0 5 = true → ti r.2.1 = seqD false (r.2.1.map PyData.int) ∧ Bd 10000 r.2.1) := fun {r} o => ⟨hP.h3, fun _ => ⟨rfl, o.pr.hB.mono (by decide)⟩⟩
  have oa : ∀ {r : Str4}, OkR s' r → rzO K (aftV K s') (ckR s' (.int r.1) (.int r.2.2.1) (.int r.2.2.2) r.2.1) = .rt (aftV K s' r) := fun {r} o => by
    rw [o.ck]
    rfl
  have ob : ∀ {r : Str4}, OkR s' r → rzO K (befV K s') (ckR s' (.int r.1) (.int r.2.2.1) (.int r.2.2.2) r.2.1) = .rt (befV K s' r) := fun {r} o => by
    rw [o.ck]
    rfl
  have dl : ∀ {r : Str4}, OkR s' r → r.2.1.length ≤ 1000 := fun {r} o => by
    rw [o.pr.hd]
    decide
  refine s_cons (s_asg 5 sc_law_steps_right.nd (x_callO (c_strip_after T) hr (s', .int r.1, ti r.2.1, .int r.2.2.1, .int r.2.2.2, false, r.2.1) (r := aftV K s' r) (xa_cons (x_var 0) (xa_cons (x_call (c_law_as_strip T) hr r (xa_cons (x_var 4) xa_nil) (by trivial)) xa_nil)) (by exact cs o1) (by exact oa o1)) ?_)
  refine s_cons (s_asg 6 sc_law_steps_right.nd (x_callO (c_strip_before T) hr (s', .int r.1, ti r.2.1, .int r.2.2.1, .int r.2.2.2, false, r.2.1) (r := befV K s' r) (xa_cons (x_var 0) (xa_cons (x_call (c_law_as_strip T) hr r (xa_cons (x_var 4) xa_nil) (by trivial)) xa_nil)) (by exact cs o1) (by exact ob o1)) ?_)
  refine s_cons (s_if (Rc := fun k => k = false) ?_ (fun h => by cases h) (fun h => s_nil ?_))
  · rcases op_cases (onwR s' r) with e | ⟨z, e⟩
    · have g := A1.go
      rw [e] at g
      refine tdt_mono (t_neD hr (x_call (c_law_goneC T) hr (splC r.1 r.2.1) (xa_cons (x_eq (x_var 5) (aft_none e)) xa_nil) (by trivial)) (x_eq (x_call (c_lawAfter T) hr ((s', p, q, kvs), r, b1, k1, b2, k2) (xa_cons (x_var 1) (xa_cons (x_var 2) (xa_cons (x_var 3) (xa_cons (x_var 4) xa_nil)))) (by exact ⟨hP, o1.pr, A1.u1, A1.u2⟩)) (congrArg VD.d (aft_spl g))) (shaped_spl _) (shaped_spl _)) (fun k h => ?_)
      rw [h, eqv_self (shaped_spl _)]
      rfl
    · have g := A1.go
      rw [e] at g
      refine tdt_mono (t_neD hr (x_call (c_law_goneS T) hr z (xa_cons (x_eq (x_var 5) (aft_some e)) xa_nil) (by exact dl g.2.2.1)) (x_eq (x_call (c_lawAfter T) hr ((s', p, q, kvs), r, b1, k1, b2, k2) (xa_cons (x_var 1) (xa_cons (x_var 2) (xa_cons (x_var 3) (xa_cons (x_var 4) xa_nil)))) (by exact ⟨hP, o1.pr, A1.u1, A1.u2⟩)) (congrArg VD.d (aft_row g))) (shaped_row z) (shaped_row z)) (fun k h => ?_)
      rw [h, eqv_self (shaped_row z)]
      rfl
  refine s_cons (s_if (Rc := fun k => k = false) ?_ (fun h => by cases h) (fun h => s_nil ?_))
  · rcases op_cases (onwR s' (backR r)) with e | ⟨z, e⟩
    · have g := A2.go
      rw [e] at g
      have ea := aft_spl g
      have eb : beT (afT r.1 (negL r.2.1) c1 l1 c2 l2) = .tuple [.str "split", .int (splC r.1 (negL r.2.1))] := by
        rw [show afT r.1 (negL r.2.1) c1 l1 c2 l2 = _ from ea]
        rfl
      refine tdt_mono (t_neD hr (x_call (c_law_goneC T) hr (splC r.1 (negL r.2.1)) (xa_cons (x_eq (x_var 6) (bef_none e)) xa_nil) (by trivial)) (x_eq (x_call (c_lawBefore T) hr ((s', p, q, kvs), r, c1, l1, c2, l2) (xa_cons (x_var 1) (xa_cons (x_var 2) (xa_cons (x_var 3) (xa_cons (x_var 4) xa_nil)))) (by exact ⟨hP, o1.pr, A2.u1, A2.u2⟩)) (congrArg VD.d eb)) (shaped_spl _) (shaped_spl _)) (fun k h => ?_)
      rw [h, eqv_self (shaped_spl _)]
      rfl
    · have g := A2.go
      rw [e] at g
      have ea := aft_row g
      have eb : beT (afT r.1 (negL r.2.1) c1 l1 c2 l2) = rowD (backR z) := by
        rw [show afT r.1 (negL r.2.1) c1 l1 c2 l2 = _ from ea]
        exact beT_row z
      refine tdt_mono (t_neD hr (x_call (c_law_goneS T) hr (backR z) (xa_cons (x_eq (x_var 6) (bef_some e)) xa_nil) (by exact dl g.2.2.2.1)) (x_eq (x_call (c_lawBefore T) hr ((s', p, q, kvs), r, c1, l1, c2, l2) (xa_cons (x_var 1) (xa_cons (x_var 2) (xa_cons (x_var 3) (xa_cons (x_var 4) xa_nil)))) (by exact ⟨hP, o1.pr, A2.u1, A2.u2⟩)) (congrArg VD.d eb)) (shaped_row _) (shaped_row _)) (fun k h => ?_)
      rw [h, eqv_self (shaped_row _)]
      rfl
  refine s_cons (s_if (Rc := fun k => k = false) ?_ (fun h => by cases h) (fun h => s_nil ?_))
  · rcases op_cases (onwR s' r) with e | ⟨z, e⟩
    · exact (w_and (k := false) (l := false) (t_v (x_isiC T.f_isinstance PyProof.Rows.boot_isinstance T.ex2.2.2.1 T.g_Strip T.ex2.2.2.2.2.2.1 (x_eq (x_var 5) (aft_none e)))) (fun h => by cases h)).pt
    · have g := A1.go
      rw [e] at g
      have eb : befV K s' z = stR K r := by
        rw [bef_some g.2.2.2.2, backback]
      refine tdt_mono ((w_and (k := true) (t_v (x_isiC T.f_isinstance PyProof.Rows.boot_isinstance T.ex2.2.1 T.g_Strip T.ex2.2.2.2.1 (x_eq (x_var 5) (aft_some e)))) (fun h => w_and1 (t_not (t_eqO (e_Strip T) T.m_Strip_eq nf_self hr (r, r) (x_callO (c_strip_before T) hr (s', .int z.1, ti z.2.1, .int z.2.2.1, .int z.2.2.2, false, z.2.1) (r := stR K r) (xa_cons (x_var 0) (xa_cons (x_eq (x_var 5) (aft_some e)) xa_nil)) (by exact cs g.2.2.1) (by exact (ob g.2.2.1).trans (congrArg O.rt eb))) (x_call (c_law_as_strip T) hr r (xa_cons (x_var 4) xa_nil) (by trivial)) rfl (by trivial))))).pt) (fun k h => ?_)
      rw [h]
      unfold eqSt
      simp
  · refine s_one (s_ret (r := .d (.bool true)) ?_ rfl)
    rcases op_cases (onwR s' (backR r)) with e | ⟨z, e⟩
    · exact x_or (k := true) (l := true) (x_not (k := false) (x_isiC T.f_isinstance PyProof.Rows.boot_isinstance T.ex2.2.2.1 T.g_Strip T.ex2.2.2.2.2.2.1 (x_eq (x_var 6) (bef_none e)))) (fun h => by cases h)
    · have g := A2.go
      rw [e] at g
      have eb : aftV K s' (backR z) = stR K r := by
        have q := g.2.2.2.2
        rw [backback] at q
        exact aft_some q
      refine x_eq (x_or (k := false) (x_not (k := true) (x_isiC T.f_isinstance PyProof.Rows.boot_isinstance T.ex2.2.1 T.g_Strip T.ex2.2.2.2.1 (x_eq (x_var 6) (bef_some e)))) (fun h => x_one (x_eqO (e_Strip T) T.m_Strip_eq nf_self hr (r, r) (x_callO (c_strip_after T) hr (s', .int (backR z).1, ti (backR z).2.1, .int (backR z).2.2.1, .int (backR z).2.2.2, false, (backR z).2.1) (r := stR K r) (xa_cons (x_var 0) (xa_cons (x_eq (x_var 6) (bef_some e)) xa_nil)) (by exact cs g.2.2.2.1) (by exact (oa g.2.2.2.1).trans (congrArg O.rt eb))) (x_call (c_law_as_strip T) hr r (xa_cons (x_var 4) xa_nil) (by trivial)) rfl (by trivial)))) ?_
      unfold eqSt
      simp
end
end K27
set_option maxHeartbeats 4000000
/-! The hand that deals. -/
namespace K27
open PySem PySem.Spec PyProof.Rows L2
local macro_rules | `(tactic| walk_at "c") => `(tactic| first | trivial | assumption | (dsimp only; (repeat' apply And.intro) <;> first | assumption | trivial | omega) | ((repeat' apply And.intro) <;> first | assumption | trivial | omega))
local macro_rules | `(tactic| walk_at "ix") => `(tactic| (try dsimp only); first | exact ix_ti (by omega) (by omega) | exact ix_li (by omega) (by omega) | exact ix_frames (by omega) (by omega) | rfl)
local macro_rules | `(tactic| walk_at "sx") => `(tactic| (try dsimp only); exact ixN_of (by omega) (by first | omega | (simp only [List.length_set, List.length_map, List.length_cons, List.length_nil]; omega)))
local macro_rules | `(tactic| walk_at "div") => `(tactic| (try dsimp only); first | exact ⟨by omega, by omega⟩ | omega)
local macro_rules | `(tactic| walk_at "mul") => `(tactic| (try dsimp only); first | exact .inl ⟨by omega, by omega⟩ | exact .inr ⟨by omega, by omega⟩)
inductive O2 where
  | nx (Γ : Gm)
  | rt (Γ : Gm) (r : VD)
structure Cn2 (Z : Zt) (aa : Addr) (B0 H0 S : Hp) (D : Ends) (P : O2 → Prop) : Prop where
  nx : ∀ Γ σ B H, P (.nx Γ) → Ok Z B0 H0 B H σ Γ → σ[0]? = some (some (.ref aa)) → Same S B → D.nx σ H
  rt : ∀ Γ r σ v B H, P (.rt Γ r) → Ok Z B0 H0 B H σ Γ → σ[0]? = some (some (.ref aa)) → Same S B → VOk Z B v r → D.rt v H
/-- as tO, and the first name holds the reference aa throughout; the names stand at the end -/
def tO2 (Z : Zt) (aa : Addr) (Γ : Gm) (P : O2 → Prop) : TS := fun D σ H => σ[0]? = some (some (.ref aa)) ∧ ∃ B0 H0 B, Ok Z B0 H0 B H σ Γ ∧ Cn2 Z aa B0 H0 B D P
theorem Cn2.later {Z : Zt} {aa : Addr} {B0 H0 S S' : Hp} {D : Ends} {P : O2 → Prop} (k : Cn2 Z aa B0 H0 S D P) (h : Same S S') : Cn2 Z aa B0 H0 S' D P :=
  ⟨fun G s b h' q o z sm => k.nx G s b h' q o z (h.trans sm), fun G r s v b h' q o z sm hv => k.rt G r s v b h' q o z (h.trans sm) hv⟩
def then2 (X : Cx) (Z : Zt) (aa : Addr) (rest : List Stmt) (P : O2 → Prop) : O2 → Prop
  | .nx Γ => PSs X rest (tO2 Z aa Γ P)
  | o => P o
section
variable {X : Cx} {M : Option Addr} {aa : Addr} {Γ : Gm} {P : O2 → Prop} {e : Expr} {st : Stmt} {sts rest : List Stmt} {pos p p2 : Pos} {x : Str}
theorem s2_cons (h : PS X st (tO2 (zx X M) aa Γ (then2 X (zx X M) aa rest P))) : PSs X (st :: rest) (tO2 (zx X M) aa Γ P) := by
  have h2 : PSs X rest (fun D σ H => ∃ Γ', PSs X rest (tO2 (zx X M) aa Γ' P) ∧ tO2 (zx X M) aa Γ' P D σ H) := ⟨fun pins s σ H D I ⟨Γ', h2, q⟩ => h2.run pins s σ H D I q⟩
  exact pss_imp (pss_cons h h2) fun D σ H ⟨z, B0, H0, B, o, k⟩ => ⟨z, B0, H0, B, o, fun G s b h q o' z sm => ⟨G, q, z, B0, H0, b, o', k.later sm⟩, fun G r s v b h q => k.rt G r s v b h q⟩
theorem s2_one (h : PS X st (tO2 (zx X M) aa Γ P)) : PSs X [st] (tO2 (zx X M) aa Γ P) := pss_one h
theorem s2_nil (h : P (.nx Γ)) : PSs X [] (tO2 (zx X M) aa Γ P) := pss_imp pss_nil fun D σ H ⟨z, B0, H0, B, o, k⟩ => k.nx Γ σ B H h o z (Same.refl B)
theorem s2_ret {r : VD} (he : PE X e (tD (zx X M) Γ (fun y => y = r))) (h : P (.rt Γ r)) : PS X (.Return (some e) pos) (tO2 (zx X M) aa Γ P) :=
  ps_imp (ps_ret he) fun D σ H ⟨z, B0, H0, B, o, k⟩ => ⟨B0, H0, B, o, fun v r' B1 H1 hr g1 o1 hv => by
    subst hr
    exact k.rt Γ _ σ v B1 H1 h o1 z g1.bb hv⟩
open Classical in
theorem s2_if {Rc : Bool → Prop} {c : Expr} {a b : List Stmt} (hc : PT X c (tDT (zx X M) Γ Rc)) (ha : Rc true → PSs X a (tO2 (zx X M) aa Γ P)) (hb : Rc false → PSs X b (tO2 (zx X M) aa Γ P)) : PS X (.If c a b pos) (tO2 (zx X M) aa Γ P) := by
  have key : ∀ {e : List Stmt} {k : Bool}, (Rc k → PSs X e (tO2 (zx X M) aa Γ P)) → ∃ t : TS, PSs X e t ∧ (Rc k → t = tO2 (zx X M) aa Γ P) := fun {e k} h => by
    by_cases q : Rc k
    · exact ⟨_, h q, fun _ => rfl⟩
    · exact ⟨tNever, pss_never, fun z => absurd z q⟩
  obtain ⟨ta, pa, ea⟩ := key ha
  obtain ⟨tb, pb, eb⟩ := key hb
  exact ps_imp (ps_if hc pa pb) fun D σ H ⟨z, B0, H0, B, o, q⟩ => ⟨B0, H0, B, o, fun d B1 H1 hd g1 o1 => by
    cases d with
    | true =>
      refine iteT ?_
      rw [ea hd]
      exact ⟨z, B0, H0, B1, o1, q.later g1.bb⟩
    | false =>
      refine iteF ?_
      rw [eb hd]
      exact ⟨z, B0, H0, B1, o1, q.later g1.bb⟩⟩
/-- xs[i] = e -/
theorem s2_setI (j : Nat) {y : PyData} {ds : List PyData} {n : Int} {m : Nat} {ie : Expr} {q : Pos} (he : PE X e (tD (zx X M) Γ (fun r => r = .d y))) (hi : PE X ie (tD (zx X M) Γ (fun r => r = .d (.int n)))) (hm : ixN ds.length n = some m) (h : P (.nx (Γ.set j (some (.mu (ds.set m y)))))) (hG : Γ[j]? = some (some (.mu ds)) := by rfl)
    (hN : X.N[j]? = some x := by rfl) (hv : Vis X.env.scope x := by first | exact Or.inl rfl | exact Or.inr (Or.inl rfl) | exact Or.inr (Or.inr rfl)) (hd : (x == ("__debug__" : Str)) = false := by decide) (hcd : (x == ("__classdict__" : Str)) = false := by decide)
    (ha : ∀ v, assign (.Subscript (.Name x q) ie p) X.env v = (do
      let ov ← holding [v] (eval (.Name x q) X.env)
      let iv ← holding [v, ov] (eval ie X.env)
      standAt p
      holding [v, ov, iv] (setItem ov iv v)
      release [v, ov, iv] []) := by intro _; rfl)
    (hs : swapsWithSole [.Subscript (.Name x q) ie p] e pos.line X.env = pure false := by rfl) (hw : swappedStores [.Subscript (.Name x q) ie p] e X.env = pure none := by rfl)
    (h1 : (assignEach [.Subscript (.Name x q) ie p] X.env).map (·.2) = [assign (.Subscript (.Name x q) ie p) X.env] := by rfl) : PS X (.Assign [.Subscript (.Name x q) ie p] e pos) (tO2 (zx X M) aa Γ P) :=
  ps_imp (ps_asg he (pg_sub (pv j hN hv hd hcd) hi set_list ha) hs hw h1) fun D σ H ⟨z, B0, H0, B, o, k⟩ => ⟨B0, H0, B, o, fun v r B1 H1 hr g1 o1 hv => by
    subst hr
    obtain ⟨l, vs, q1, _, _, _⟩ := v_mu o1 hG
    refine ⟨.ref l, q1, B0, H0, B1, o1, fun w r B2 H2 hr g2 o2 hw => ?_⟩
    subst hr
    obtain ⟨l2, vs, p1, p2, p3, p4⟩ := v_mu o2 hG
    rw [q1] at p1
    have e1 := V.ref.inj (Option.some.inj (Option.some.inj p1))
    subst e1
    exact ⟨l, vs, n, m, rfl, dpi hw, p2, by rw [dpall_len p3]; exact hm, k.nx _ σ B2 _ h (p4 _ _ (dpall_set (dp_mono g2.bb _ _ hv) m p3)) z (g1.bb.trans g2.bb)⟩⟩
theorem s2_asg (i : Nat) {r : VD} (hN : X.N.Nodup) (he : PE X e (tD (zx X M) Γ (fun y => y = r))) (h : P (.nx (Γ.set i (some (.v r))))) (hl : i < Γ.length := by exact Nat.le_of_ble_eq_true rfl) (hi : X.N[i]? = some x := by rfl) (hx : Loc X.env.scope x := by first | exact Or.inl rfl | exact Or.inr rfl)
    (hs : swapsWith e (some (.Name x p)) pos.line X.env = pure false := by rfl) (hf : X.fn x = true ∨ X.env.scope.names.lookup x = some .local := by first | exact .inl rfl | exact .inr rfl) (hi0 : i ≠ 0 := by decide) : PS X (.Assign [.Name x p] e pos) (tO2 (zx X M) aa Γ P) :=
  ps_imp (ps_set hN hi hx he hs hf) fun D σ H ⟨z, B0, H0, B, o, k⟩ => ⟨B0, H0, B, o, fun v r B1 H1 hr g1 o1 hv => by
    subst hr
    exact k.nx _ _ B1 H1 h (o1.set hl hv) (by rw [List.getElem?_set_ne hi0]; exact z) g1.bb⟩
def pJ {α : Type} (Φ : α → Gm) (good : α → Prop) (P : O2 → Prop) : O2 → Prop
  | .nx G => ∃ x, good x ∧ G = Φ x
  | .rt G r => P (.rt G r)
theorem s2_mono {P' : O2 → Prop} (h : PSs X sts (tO2 (zx X M) aa Γ P')) (hp : ∀ o, P' o → P o) : PSs X sts (tO2 (zx X M) aa Γ P) :=
  pss_imp h fun D σ H ⟨z, B0, H0, B, o, k⟩ => ⟨z, B0, H0, B, o, fun G s b h q => k.nx G s b h (hp _ q), fun G r s v b h q => k.rt G r s v b h (hp _ q)⟩
theorem s2_ifJ {α : Type} (Φ : α → Gm) (good : α → Prop) {Rc : Bool → Prop} {c : Expr} {a b : List Stmt} (hk : ∀ x, good x → P (.nx (Φ x))) (hc : PT X c (tDT (zx X M) Γ Rc)) (ha : Rc true → PSs X a (tO2 (zx X M) aa Γ (pJ Φ good P))) (hb : Rc false → PSs X b (tO2 (zx X M) aa Γ (pJ Φ good P))) : PS X (.If c a b pos) (tO2 (zx X M) aa Γ P) := by
  have q : ∀ o, pJ Φ good P o → P o := fun o h => by
    cases o with
    | nx G =>
      obtain ⟨x, g, e⟩ := h
      rw [e]
      exact hk x g
    | rt G r => exact h
  exact s2_if hc (fun h => s2_mono (ha h) q) (fun h => s2_mono (hb h) q)
end
def mixM (n t : Int) : Int :=
  let once := (n * 48271 + t * 10007 + 30011) % 2147483647
  let twice := (once * once + t * 92821 + once / 257) % 2147483629
  ((twice * 69621 + once / 11) % 2147483587) / 64
section
variable {P : Program} {w : World} {K : PySem.W.Frag} {mg : Str → Option Value} {base : Heap} (T : Tx K mg)
include T
theorem c_law_mixed : Cal P w K mg base 1 "_law_mixed" (spP P w K (ι := Int × Int) (fun i => [.d (.int i.1), .d (.int i.2)]) (fun _ => True) (fun i => .d (.int (mixM i.1 i.2)))) := by
  obtain ⟨fd, F⟩ := T.D_law_mixed
  refine ⟨_, fd, _, fun_pure F sc_law_mixed (fun _ => rfl) (fun ⟨n, t⟩ cdv Ar outer s H E hC hr => ?_), T.g_law_mixed, F.kp, F.bindsN (ps := ["_law_number", "_law_turn"]) fun _ _ _ _ _ _ us hl => match us, hl with | [_, _], _ => rfl⟩
  let once := (n * 48271 + t * 10007 + 30011) % 2147483647
  have o0 : 0 ≤ once ∧ once < 2147483647 := ⟨Int.emod_nonneg _ (by decide), Int.emod_lt_of_pos _ (by decide)⟩
  let twice := (once * once + t * 92821 + once / 257) % 2147483629
  have t0 : 0 ≤ twice ∧ twice < 2147483629 := ⟨Int.emod_nonneg _ (by decide), Int.emod_lt_of_pos _ (by decide)⟩
  refine s_cons (s_asg 2 (r := .d (.int once)) sc_law_mixed.nd (x_mod (x_int1 T.f_int PyProof.Rows.boot_int (x_add (x_add (x_mul (x_var 0) x_int (by exact .inr ⟨by decide, by decide⟩)) (x_mul (x_var 1) x_int (by exact .inr ⟨by decide, by decide⟩))) x_int)) x_int (by decide)) ?_)
  refine s_cons (s_asg 3 (r := .d (.int twice)) sc_law_mixed.nd (x_mod (x_int1 T.f_int PyProof.Rows.boot_int (x_add (x_add (x_mul (x_var 2) (x_var 2) (by exact .inl ⟨by omega, by omega⟩)) (x_mul (x_var 1) x_int (by exact .inr ⟨by decide, by decide⟩))) (x_fdiv (x_var 2) x_int (by decide)))) x_int (by decide)) ?_)
  exact s_one (s_ret (x_fdiv (x_int1 T.f_int PyProof.Rows.boot_int (x_mod (x_int1 T.f_int PyProof.Rows.boot_int (x_add (x_mul (x_var 3) x_int (by exact .inr ⟨by decide, by decide⟩)) (x_fdiv (x_var 2) x_int (by decide)))) x_int (by decide))) x_int (by decide)) (by rfl))
end
/-! ### take -/
def spTake (K : PySem.W.Frag) : Sp := fun vs H Q _ => ∃ (h : Addr) (m : Int) (B : Hp), vs = [.ref h, .int m] ∧ 0 < m ∧ m < 1073741824 ∧ Same B H ∧ HandAt K B H h ∧ ∀ r B' H', 0 ≤ r → r < m → Gr (some h) B H B' H' → HandAt K B' H' h → Q (.int r) H'
def hdL (cells : List Int) (pos rest tot : Int) : List PyData := [li cells, .int pos, .int rest, .int tot]
def HdB (cells : List Int) (pos rest tot : Int) : Prop := (∀ x ∈ cells, 0 ≤ x) ∧ 0 ≤ pos ∧ 0 ≤ rest ∧ 0 ≤ tot ∧ tot < 2147483549
section
variable {P : Program} {w : World} {K : PySem.W.Frag} {mg : Str → Option Value} {base : Heap} (T : Tx K mg)
include T
omit T in
theorem dpall_ints2 {K : PySem.W.Frag} {B : Hp} : ∀ {ns : List Int} {vs : List V}, DpAll K B vs (ns.map PyData.int) → vs = ns.map V.int
  | [], _, h => by cases h; rfl
  | n :: ns, _, h => by
    cases h with
    | cons h1 h2 =>
      rw [dpi h1, dpall_ints2 h2]
      rfl
omit T in
theorem dpall_of_ints2 {K : PySem.W.Frag} {B : Hp} : ∀ ns : List Int, DpAll K B (ns.map V.int) (ns.map PyData.int)
  | [] => .nil
  | n :: ns => .cons (Dp.int n) (dpall_of_ints2 ns)
theorem f_take : ∃ fd ps, FnOk P w K mg base CX0 2 (He.ga K "_law_take") fd ps (spTake K) ∧ Binds K fd ps [] := by
  obtain ⟨fd, F⟩ := T.D_law_take
  refine ⟨fd, _, F.ok sc_law_take (fun vs H Q E h => ?_) (fun cdv Ar outer s H vs Q E hr h => ?_), F.bindsN (ps := ["_law_hand_here", "_law_many_here"]) fun _ _ _ _ _ _ us hl => match us, hl with | [_, _], _ => rfl⟩
  · obtain ⟨h, m, B, rfl, _⟩ := h
    rfl
  · obtain ⟨a, m, B, rfl, m0, m1, hs, ⟨nb, c, cells, pos, rest, tot, ha, hc, hb⟩, k⟩ := h
    let X := (cxOf CX0 P w K mg base N_law_take d_law_take.qual (defScope st_law_take) (He.fAd K d_law_take.at_) cdv Ar outer s H E).nox
    let good : Gm → VD → Prop := fun G r => ∃ pos rest tot o2 o3 j, G = [some (.mu (hdL cells pos rest tot)), some (.v (.d (.int m))), o2, o3] ∧ HdB cells pos rest tot ∧ r = .d (.int j) ∧ 0 ≤ j ∧ j < m
    have fin : ∀ {G : Gm} {y : Int} {pos rest tot : Int} {o2 o3 : Option Slt}, G = [some (.mu (hdL cells pos rest tot)), some (.v (.d (.int m))), o2, o3] → HdB cells pos rest tot → good G (.d (.int (y % m))) := fun {G y pos rest tot o2 o3} e b => ⟨pos, rest, tot, o2, o3, y % m, e, b, rfl, Int.emod_nonneg _ (by omega), Int.emod_lt_of_pos _ m0⟩
    let PP : O2 → Prop := fun o => match o with
        | .nx _ => False
        | .rt G r => good G r
    let Φ : Int × Int × Int × Option Slt × Option Slt → Gm := fun i => [some (.mu (hdL cells i.1 i.2.1 i.2.2.1)), some (.v (.d (.int m))), i.2.2.2.1, i.2.2.2.2]
    refine ⟨tO2 (zx X none) a [some (.mu (hdL cells pos rest tot)), some (.v (.d (.int m))), none, none] PP, PSs.nox ?_, ?_⟩
    · refine s2_cons (s2_ifJ (X := X) Φ (fun i => HdB cells i.1 i.2.1 i.2.2.1) ?_ (w_and (t_eqI (x_frz 0 (ds := hdL cells pos rest tot) (x_ix (z := .int rest) (x_var 0) x_int (by rfl))) x_int) (fun _ => (w_and1 (t_lt (x_frz 0 (ds := hdL cells pos rest tot) (x_ix (z := .int pos) (x_var 0) x_int (by rfl))) (x_frz 0 (ds := hdL cells pos rest tot) (x_len T.f_len true (ds := cells.map PyData.int) PySem.boot_len (x_ix (z := li cells) (x_var 0) x_int (by rfl)))))))).pt ?_ ?_)
      · rintro ⟨pos, rest, tot, o2, o3⟩ hb
        have hb : HdB cells pos rest tot := hb
        obtain ⟨hc0, hp0, hr0, ht0, ht1⟩ := id hb
        refine s2_cons (s2_if (X := X) (Γ := Φ (pos, rest, tot, o2, o3)) (t_gt (x_frz 0 (ds := hdL cells pos rest tot) (x_ix (z := .int rest) (x_var 0) x_int (by rfl))) x_int) ?_ ?_)
        · intro h
          refine s2_cons (s2_asg 3 sc_law_take.nd (x_frz 0 (ds := hdL cells pos rest tot) (x_ix (z := .int rest) (x_var 0) x_int (by rfl))) ?_)
          refine s2_cons (s2_setI 0 (ds := hdL cells pos rest tot) (m := 2) (x_fdiv (x_int1 T.f_int PyProof.Rows.boot_int (x_var 3)) (x_var 1) (by exact ⟨m0, m1⟩)) x_int (by rfl) ?_)
          exact s2_one (s2_ret (x_mod (x_int1 T.f_int PyProof.Rows.boot_int (x_var 3)) (x_var 1) (by exact m0)) (fin (pos := pos) (rest := rest / m) (tot := tot) rfl ⟨hc0, hp0, Int.ediv_nonneg hr0 (Int.le_of_lt m0), ht0, ht1⟩))
        · intro h
          refine s2_nil ?_
          refine s2_cons (s2_setI (X := X) (Γ := Φ (pos, rest, tot, o2, o3)) 0 (ds := hdL cells pos rest tot) (m := 3) (x_mod (x_int1 T.f_int PyProof.Rows.boot_int (x_add (x_frz 0 (ds := hdL cells pos rest tot) (x_ix (z := .int tot) (x_var 0) x_int (by rfl))) x_int)) x_int (by decide)) x_int (by rfl) ?_)
          let tot' := (tot + 1) % 2147483549
          exact s2_one (s2_ret (x_mod (x_int1 T.f_int PyProof.Rows.boot_int (x_call (c_law_mixed T) hr (tot', pos) (xa_cons (x_frz 0 (ds := hdL cells pos rest tot') (x_ix (z := .int tot') (x_var 0) x_int (by rfl))) (xa_cons (x_frz 0 (ds := hdL cells pos rest tot') (x_ix (z := .int pos) (x_var 0) x_int (by rfl))) xa_nil)) (by trivial))) (x_var 1) (by exact m0)) (fin (pos := pos) (rest := rest) (tot := tot') rfl ⟨hc0, hp0, hr0, Int.emod_nonneg _ (by decide), Int.emod_lt_of_pos _ (by decide)⟩))
      · intro h
        have h : true = (decide (rest = 0) && decide (pos < ((cells.map PyData.int).length : Int))) := h
        have h := He.ba h.symm
        have hr0 := of_decide_eq_true h.1
        have hlt := of_decide_eq_true h.2
        rw [List.length_map] at hlt
        obtain ⟨hc0, hp0, hr1, ht0, ht1⟩ := id hb
        have cel : 0 ≤ gi cells pos := hc0 _ (gi_mem hp0 hlt)
        refine s2_cons (s2_asg 2 sc_law_take.nd (x_frz 0 (ds := hdL cells pos rest tot) (x_ix (z := .int (gi cells pos)) (x_ix (z := li cells) (x_var 0) x_int (by rfl)) (x_ix (z := .int pos) (x_var 0) x_int (by rfl)) (by exact ix_li hp0 hlt))) ?_)
        refine s2_cons (s2_setI 0 (ds := hdL cells pos rest tot) (m := 1) (x_add (x_frz 0 (ds := hdL cells pos rest tot) (x_ix (z := .int pos) (x_var 0) x_int (by rfl))) x_int) x_int (by rfl) ?_)
        have hb2 : HdB cells (pos + 1) rest tot := ⟨hc0, by omega, hr1, ht0, ht1⟩
        refine s2_cons (s2_if (t_lt (x_var 2) (x_pow x_int x_int (by decide))) ?_ ?_)
        · intro h
          exact s2_one (s2_ret (x_mod (x_int1 T.f_int PyProof.Rows.boot_int (x_call (c_law_mixed T) hr (gi cells pos % 2147483647, pos + 1) (xa_cons (x_mod (x_int1 T.f_int PyProof.Rows.boot_int (x_var 2)) x_int (by decide)) (xa_cons (x_frz 0 (ds := hdL cells (pos + 1) rest tot) (x_ix (z := .int (pos + 1)) (x_var 0) x_int (by rfl))) xa_nil)) (by trivial))) (x_var 1) (by exact m0)) (fin (pos := pos + 1) (rest := rest) (tot := tot) rfl hb2))
        · intro h
          refine s2_nil ?_
          refine s2_one (s2_setI 0 (ds := hdL cells (pos + 1) rest tot) (m := 2) (x_var 2) x_int (by rfl) ?_)
          exact ⟨(pos + 1, gi cells pos, tot, _, _), ⟨hc0, by show (0 : Int) ≤ pos + 1; omega, cel, ht0, ht1⟩, rfl⟩
      · intro h
        exact s2_nil ⟨(pos, rest, tot, none, none), hb, rfl⟩
    · let H0 : Hp := fun b => if b = a then none else H b
      have hne : ∀ {b : Addr} {o : HO}, B b = some o → b ≠ a := fun {b o} e => ne_of_none e nb
      have s1 : Same B H := hs
      have h0 : Gr none B H0 B H := ⟨Same.refl B, hs, fun b o _ e => by
        by_cases q : b = a
        · have e : (if b = a then none else H b) = some o := e
          rw [if_pos q] at e
          cases e
        · have e : (if b = a then none else H b) = some o := e
          rw [if_neg q] at e
          exact e, fun b e => .inl e, fun b e => by
        by_cases q : b = a
        · rw [q, ha]
          simp
        · have e : (if b = a then none else H b) ≠ none := e
          rw [if_neg q] at e
          exact e⟩
      have ha0 : H0 a = none := if_pos rfl
      have dd : DpAll K B [.ref c, .int pos, .int rest, .int tot] (hdL cells pos rest tot) := .cons (Dp.lst hc (dpall_of_ints2 cells)) (.cons (Dp.int _) (.cons (Dp.int _) (.cons (Dp.int _) .nil)))
      have ok0 : Ok (zx X none) B H0 B H (start N_law_take [.ref a, .int m]) [some (.mu (hdL cells pos rest tot)), some (.v (.d (.int m))), none, none] := by
        refine ⟨h0, fun a z => (by cases z), rfl, fun i t e => ?_, fun i j t u y e1 e2 o1 o2 => ?_⟩
        · match i, e with
          | 0, e =>
            cases e
            exact ⟨_, rfl, a, _, rfl, ha0, nb, by simp, ha, dd⟩
          | 1, e =>
            cases e
            exact ⟨_, rfl, Dp.int m⟩
          | 2, e => cases e
          | 3, e => cases e
          | i + 4, e => cases e
        · intro x1 x2
          match i, j, e1, e2 with
          | 0, 0, _, _ => rfl
          | 0, 1, e1, e2 =>
            cases e2
            cases o2
          | 0, 2, e1, e2 => cases e2
          | 0, 3, e1, e2 => cases e2
          | 0, j + 4, e1, e2 => cases e2
          | 1, _, e1, e2 =>
            cases e1
            cases o1
          | 2, _, e1, e2 => cases e1
          | 3, _, e1, e2 => cases e1
          | i + 4, _, e1, e2 => cases e1
      refine ⟨rfl, B, H0, B, ok0, ⟨fun G σ B1 H1 hp o1 z sm => hp.elim, fun G r σ v B1 H1 hp o1 z sm hv => ?_⟩⟩
      obtain ⟨pos', rest', tot', o2, o3, j, rfl, hb', rfl, j0, j1⟩ := hp
      rw [show v = V.int j from dpi hv]
      obtain ⟨x, hx, l, vs, rfl, hl0, hlb, _, hl, hd⟩ := o1.sl 0 _ rfl
      rw [z] at hx
      have el := V.ref.inj (Option.some.inj (Option.some.inj hx))
      subst el
      obtain ⟨c2, p2, q2, t2, e4, hq⟩ : ∃ c2 p2 q2 t2, vs = [.ref c2, .int p2, .int q2, .int t2] ∧ SqL K B1 c2 (cells.map V.int) ∧ p2 = pos' ∧ q2 = rest' ∧ t2 = tot' := by
        cases hd with
        | cons d1 d2 =>
          cases d2 with
          | cons d3 d4 =>
            cases d4 with
            | cons d5 d6 =>
              cases d6 with
              | cons d7 d8 =>
                cases d8
                obtain ⟨c2, ws, rfl, w1, w2⟩ := dpl (show Dp K B1 _ (.list (cells.map PyData.int)) from d1)
                rw [dpi d3, dpi d5, dpi d7]
                refine ⟨c2, _, _, _, rfl, ?_, rfl, rfl, rfl⟩
                have e := dpall_ints2 w2
                rw [← e]
                exact w1
      obtain ⟨hs2, e1, e2, e3⟩ := hq
      subst e1 e2 e3 e4
      have hz : ∀ b, b ≠ a → H0 b = H b := fun b hb => if_neg hb
      refine k j B1 H1 j0 j1 ⟨o1.gr.bb, o1.gr.bh, fun b o hb e => ?_, fun b e => ?_, fun b e => ?_⟩ ⟨hlb, c2, cells, _, _, _, hl, hs2, hb'⟩
      · have hb : b ≠ a := fun z => hb (by rw [z])
        exact o1.gr.hh b o (by simp) (by rw [hz b hb]; exact e)
      · by_cases hb : b = a
        · rw [hb, hlb] at e
          exact absurd rfl e
        · rcases o1.gr.nw b e with q | q
          · exact .inl q
          · rw [hz b hb] at q
            exact .inr q
      · by_cases hb : b = a
        · rw [hb, hl]
          simp
        · exact o1.gr.al b (by rw [hz b hb]; exact e)
end
end K27
set_option maxHeartbeats 4000000
/-! Defs that are dealt from the hand. -/
namespace K27
open PySem PySem.Spec PyProof.Rows L2
local macro_rules | `(tactic| walk_at "c") => `(tactic| first | trivial | assumption | (dsimp only; (repeat' apply And.intro) <;> first | assumption | trivial | omega) | ((repeat' apply And.intro) <;> first | assumption | trivial | omega))
local macro_rules | `(tactic| walk_at "ix") => `(tactic| (try dsimp only); first | exact ix_ti (by omega) (by omega) | exact ix_li (by omega) (by omega) | exact ix_frames (by omega) (by omega) | rfl)
local macro_rules | `(tactic| walk_at "sx") => `(tactic| (try dsimp only); exact ixN_of (by omega) (by first | omega | (simp only [List.length_set, List.length_map, List.length_cons, List.length_nil]; omega)))
local macro_rules | `(tactic| walk_at "div") => `(tactic| (try dsimp only); first | exact ⟨by omega, by omega⟩ | omega)
local macro_rules | `(tactic| walk_at "mul") => `(tactic| (try dsimp only); first | exact .inl ⟨by omega, by omega⟩ | exact .inr ⟨by omega, by omega⟩)
/-- a promise of a def whose first argument is the hand -/
def spH (P : Program) (w : World) (K : PySem.W.Frag) {ι : Type} (A : ι → List VD) (C : ι → Prop) (R : ι → VD → Prop) : Sp := fun vs H Q _ => ∃ (i : ι) (h : Addr) (B : Hp) (us : List V), C i ∧ vs = .ref h :: us ∧ VsOk ⟨P, w, K, none⟩ B us (A i) ∧ Same B H ∧ HandAt K B H h ∧
  ∀ r v B' H', R i r → Gr (some h) B H B' H' → HandAt K B' H' h → VOk ⟨P, w, K, none⟩ B' v r → Q v H'
def PFR (R : VD → Prop) : O → Prop
  | .rt r => R r
  | _ => False
theorem ok_startH {P : Program} {w : World} {K : PySem.W.Frag} {B H : Hp} {N : List Str} {vs : List V} {rs : List VD} {h : Addr} (hs : Same B H) (hv : VsOk ⟨P, w, K, none⟩ B vs rs) (hh : HandAt K B H h) (hl : rs.length + 1 ≤ N.length) : Ok ⟨P, w, K, some h⟩ B H B H (L2.start N (.ref h :: vs)) (some .hd :: (rs.map (fun r => some (.v r)) ++ List.replicate (N.length - (rs.length + 1)) none)) := by
  have hlen := vsok_len hv
  have key : ∀ (i : Nat) (s : Slt), (some Slt.hd :: (rs.map (fun r => some (.v r)) ++ List.replicate (N.length - (rs.length + 1)) none))[i]? = some (some s) → (i = 0 ∧ s = .hd) ∨ ∃ j r, i = j + 1 ∧ rs[j]? = some r ∧ s = .v r := fun i s e => by
    cases i with
    | zero =>
      have e : some (some Slt.hd) = some (some s) := e
      exact .inl ⟨rfl, (Option.some.inj (Option.some.inj e)).symm⟩
    | succ j =>
      rw [List.getElem?_cons_succ] at e
      right
      by_cases hi : j < rs.length
      · rw [List.getElem?_append_left (by rw [List.length_map]; exact hi), List.getElem?_map, List.getElem?_eq_getElem hi] at e
        exact ⟨j, rs[j], rfl, List.getElem?_eq_getElem hi, (Option.some.inj (Option.some.inj e)).symm⟩
      · rw [List.getElem?_append_right (by rw [List.length_map]; omega)] at e
        obtain ⟨h1, h2⟩ := List.getElem?_eq_some_iff.mp e
        rw [List.getElem_replicate] at h2
        cases h2
  refine ⟨Gr.refl hs, fun a e => ?_, by unfold L2.start; simp [hlen], fun i s e => ?_, fun i j s t x e1 e2 o1 o2 _ _ => ?_⟩
  · have e := Option.some.inj e
    subst e
    exact hh
  · rcases key i s e with ⟨rfl, rfl⟩ | ⟨j, r, rfl, h1, rfl⟩
    · exact ⟨.ref h, by unfold L2.start; rfl, h, rfl, rfl⟩
    · obtain ⟨v, h3, h4⟩ := vsok_get hv h1
      refine ⟨v, ?_, vok_m h4⟩
      unfold L2.start
      have hi := (List.getElem?_eq_some_iff.mp h3).1
      rw [List.map_cons, List.cons_append, List.getElem?_cons_succ, List.getElem?_append_left (by rw [List.length_map]; exact hi), List.getElem?_map, h3]
      rfl
  · rcases key i s e1 with ⟨rfl, rfl⟩ | ⟨j, r, rfl, h1, rfl⟩ <;> cases o1
theorem fun_hand {P : Program} {w : World} {K : PySem.W.Frag} {mg : Str → Option Value} {base : Heap} {ι : Type} {A : ι → List VD} {C : ι → Prop} {R : ι → VD → Prop} {y qual : Str} {params : Arguments} {bd : List Stmt} {scope : Scope} {dvs : List V} {kws : List (Str × V)} {f : Addr} {fd : FuncData} {N ps : List Str} {k : Nat}
    (F : FunD K y qual params bd scope dvs kws f fd) (S : FnScope N ps scope) (hl : ∀ i, (A i).length + 1 = ps.length) (hN : ps.length ≤ N.length)
    (hb : ∀ (i : ι) (h : Addr) (cdv : Value) (Ar : Around) (outer : List Env) (s : Shared) (H : Hp) (E : XK), C i → Room k (Ar.deeper (envOfC qual scope s.heap.objs.size f cdv)) →
      PSs (cxOf CX0 P w K mg base N qual scope f cdv Ar outer s H E).nox bd (tO (zx (cxOf CX0 P w K mg base N qual scope f cdv Ar outer s H E).nox (some h)) E0 (some .hd :: ((A i).map (fun r => some (.v r)) ++ List.replicate (N.length - ((A i).length + 1)) none)) (PFR (R i)))) : FnOk P w K mg base CX0 (k + 1) f fd ps (spH P w K A C R) := by
  refine F.ok S (fun vs H Q E h => ?_) (fun cdv Ar outer s H vs Q E hr h => ?_)
  · obtain ⟨i, h, B, us, hC, rfl, hv, _⟩ := h
    rw [List.length_cons, vsok_len hv, hl]
  · obtain ⟨i, h, B, us, hC, rfl, hv, hs, hh, q⟩ := h
    refine ⟨_, (hb i h cdv Ar outer s H E hC hr).nox, B, H, B, ok_startH hs hv hh (by rw [hl]; exact hN), ⟨fun G s b h hp o sm => hp.elim, fun r v b h1 hp g hM hv => ?_, fun G s b h hp o sm => hp.elim, fun G s b h hp o sm => hp.elim, fun C f x v d b h hp => hp.elim⟩⟩
    exact q r v b h1 hp g (hM h rfl) (vok_m hv)
section
variable {X : Cx} {h : Addr} {Γ : Gm} {e : Expr} {es : List Expr} {p p2 pos : Pos} {x y : Str}
theorem pa_hd (i : Nat) {Ra : List VD → Prop} (ha : PA X es (tDA (zx X (some h)) Γ Ra)) (hG : Γ[i]? = some (some .hd)) (hN : X.N[i]? = some y) (hv : Vis X.env.scope y) (hd : (y == ("__debug__" : Str)) = false) (hcd : (y == ("__classdict__" : Str)) = false) (hs : starEach (.Name y p2 :: es) X.env = (false, eval (.Name y p2) X.env) :: starEach es X.env) :
    PA X (.Name y p2 :: es) (fun σ H Q => ∃ B0 H0 B, Ok (zx X (some h)) B0 H0 B H σ Γ ∧ ∀ vs rs B' H', Ra rs → Gr (some h) B H B' H' → Ok (zx X (some h)) B0 H0 B' H' σ Γ → VsOk (zx X (some h)) B' vs rs → Q (.ref h :: vs) H') :=
  pa_imp (pa_cons (pv i hN hv hd hcd) ha hs) fun σ H Q ⟨B0, H0, B, o, k⟩ => by
    obtain ⟨v, e, h', e1, e2⟩ := o.sl i _ hG
    have e2 := Option.some.inj e2
    subst e2 e1
    exact ⟨_, e, B0, H0, B, o, fun vs rs B' H' hr g o' hv => k vs rs B' H' hr g o' hv⟩
/-- a call of a def that is dealt from the hand -/
theorem x_callH (i : Nat) {ι : Type} {A : ι → List VD} {C : ι → Prop} {R : ι → VD → Prop} {k j : Nat} (cl : Cal X.prog X.w X.K X.mg X.base k x (spH X.prog X.w X.K A C R)) (hr : Room j X.A) (a : ι) (ha : PA X es (tDA (zx X (some h)) Γ (fun l => l = A a))) (hC : C a) (hk : k ≤ j := by decide) (hG : Γ[i]? = some (some .hd) := by rfl) (hg : Gl X x := by rfl)
    (hN : X.N[i]? = some y := by rfl) (hv : Vis X.env.scope y := by first | exact Or.inl rfl | exact Or.inr (Or.inl rfl) | exact Or.inr (Or.inr rfl)) (hd : (y == ("__debug__" : Str)) = false := by decide) (hcd : (y == ("__classdict__" : Str)) = false := by decide)
    (hdb : (x == ("__debug__" : Str)) = false := by decide) (he : starEach (.Name y p2 :: es) X.env = (false, eval (.Name y p2) X.env) :: starEach es X.env := by rfl) (hpl : (backTo pos (starEach es X.env)).any (·.1) = false := by rfl) : PE X (.Call (.Name x p) (.Name y p2 :: es) [] pos) (tD (zx X (some h)) Γ (R a)) := by
  obtain ⟨f, fd, ps, F, hm, hkp, hb⟩ := cl.ex
  refine pe_imp (pe_call F (hr.mono hk) hg hm hkp hb .nil pass0 (pa_hd i ha hG hN hv hd hcd he) hdb he hpl) fun σ H Q ⟨B0, H0, B, o, q⟩ => ⟨B0, H0, B, o, fun vs rs B1 H1 hrs g1 o1 hvs => ?_⟩
  subst hrs
  rw [List.append_nil]
  refine ⟨a, h, B1, vs, hC, rfl, vsok_m hvs, o1.bh, o1.hand h rfl, fun r v B' H' hR g hh hv => ?_⟩
  have hM : HandM (zx X (some h)) B' H' := fun c e => by
    have e := Option.some.inj e
    subst e
    exact hh
  exact q v r B' H' hR (g1.trans g) (o1.growM g hM) (vok_m hv)
/-- _law_take(hand, m) -/
theorem x_take (i : Nat) {m : Int} {j : Nat} (cl : Cal X.prog X.w X.K X.mg X.base 2 "_law_take" (spTake X.K)) (hr : Room j X.A) (ha : PE X e (tD (zx X (some h)) Γ (fun r => r = .d (.int m)))) (hm0 : 0 < m ∧ m < 1073741824) (hk : 2 ≤ j := by decide) (hG : Γ[i]? = some (some .hd) := by rfl) (hg : Gl X "_law_take" := by rfl)
    (hN : X.N[i]? = some y := by rfl) (hv : Vis X.env.scope y := by first | exact Or.inl rfl | exact Or.inr (Or.inl rfl) | exact Or.inr (Or.inr rfl)) (hd : (y == ("__debug__" : Str)) = false := by decide) (hcd : (y == ("__classdict__" : Str)) = false := by decide)
    (hs2 : starEach [e] X.env = (false, eval e X.env) :: starEach [] X.env := by rfl) (he : starEach [.Name y p2, e] X.env = (false, eval (.Name y p2) X.env) :: starEach [e] X.env := by rfl) (hpl : (backTo pos (starEach [e] X.env)).any (·.1) = false := by rfl) : PE X (.Call (.Name "_law_take" p) [.Name y p2, e] [] pos) (tD (zx X (some h)) Γ (fun y => ∃ r, (0 ≤ r ∧ r < m) ∧ y = .d (.int r))) := by
  obtain ⟨f, fd, ps, F, hm, hkp, hb⟩ := cl.ex
  refine pe_imp (pe_call F (hr.mono hk) hg hm hkp hb .nil pass0 (pa_hd i (xa_cons ha xa_nil hs2) hG hN hv hd hcd he) (by decide) he hpl) fun σ H Q ⟨B0, H0, B, o, q⟩ => ⟨B0, H0, B, o, fun vs rs B1 H1 hrs g1 o1 hvs => ?_⟩
  subst hrs
  rw [List.append_nil]
  obtain ⟨v, rfl, hv1⟩ := vs1 hvs
  rw [show v = V.int m from dpi hv1]
  refine ⟨h, m, B1, rfl, hm0.1, hm0.2, o1.bh, o1.hand h rfl, fun r B' H' r0 r1 g hh => ?_⟩
  have hM : HandM (zx X (some h)) B' H' := fun c e => by
    have e := Option.some.inj e
    subst e
    exact hh
  exact q _ _ B' H' ⟨r, ⟨r0, r1⟩, rfl⟩ (g1.trans g) (o1.growM g hM) (Dp.int r)
end
section
variable {P : Program} {w : World} {K : PySem.W.Frag} {mg : Str → Option Value} {base : Heap} (T : Tx K mg)
include T
theorem c_take : Cal P w K mg base 2 "_law_take" (spTake K) := by
  obtain ⟨fd, ps, F, hb⟩ := f_take T (P := P) (w := w) (base := base)
  obtain ⟨fd2, F2⟩ := T.D_law_take
  exact ⟨_, fd, ps, F, T.g_law_take, F2.kp, hb⟩
end
end K27
set_option maxHeartbeats 4000000
/-! What is drawn. -/
namespace K27
open PySem PySem.Spec PyProof.Rows L2
local macro_rules | `(tactic| walk_at "c") => `(tactic| first | trivial | assumption | (dsimp only; (repeat' apply And.intro) <;> first | assumption | trivial | omega) | ((repeat' apply And.intro) <;> first | assumption | trivial | omega))
local macro_rules | `(tactic| walk_at "ix") => `(tactic| (try dsimp only); first | exact ix_ti (by omega) (by omega) | exact ix_li (by omega) (by omega) | exact ix_frames (by omega) (by omega) | rfl)
local macro_rules | `(tactic| walk_at "sx") => `(tactic| (try dsimp only); exact ixN_of (by omega) (by first | omega | (simp only [List.length_set, List.length_map, List.length_cons, List.length_nil]; omega)))
local macro_rules | `(tactic| walk_at "div") => `(tactic| (try dsimp only); first | exact ⟨by omega, by omega⟩ | omega)
local macro_rules | `(tactic| walk_at "mul") => `(tactic| (try dsimp only); first | exact .inl ⟨by omega, by omega⟩ | exact .inr ⟨by omega, by omega⟩)
section
variable {X : Cx} {M : Option Addr} {Γ : Gm} {P : O → Prop} {E : XK} {a b e : Expr} {es : List Expr} {p pos : Pos} {x : Str}
def RI (R : Int → Prop) : VD → Prop := fun y => ∃ r, R r ∧ y = .d (.int r)
theorem x_rI {i : Int} (h : PE X e (tD (zx X M) Γ (fun y => y = .d (.int i)))) : PE X e (tD (zx X M) Γ (RI (fun r => r = i))) := x_mono h fun r e => ⟨i, rfl, e⟩
theorem x_addR {R S : Int → Prop} (ha : PE X a (tD (zx X M) Γ (RI R))) (hb : PE X b (tD (zx X M) Γ (RI S))) : PE X (.BinOp a .Add b pos) (tD (zx X M) Γ (RI (fun z => ∃ i j, R i ∧ S j ∧ z = i + j))) :=
  x_op op_add ha hb fun x y ⟨i, hi, e1⟩ ⟨j, hj, e2⟩ => by
    subst e1 e2
    exact fun B H u v Q hs hu hv k => rd_I0 (fun _ => Dp.int _) B H u v Q hs hu hv fun w z B' H' hz g hw => k w z B' H' ⟨i + j, ⟨i, j, hi, hj, rfl⟩, hz⟩ g hw
theorem x_subR {R S : Int → Prop} (ha : PE X a (tD (zx X M) Γ (RI R))) (hb : PE X b (tD (zx X M) Γ (RI S))) : PE X (.BinOp a .Sub b pos) (tD (zx X M) Γ (RI (fun z => ∃ i j, R i ∧ S j ∧ z = i - j))) :=
  x_op op_sub ha hb fun x y ⟨i, hi, e1⟩ ⟨j, hj, e2⟩ => by
    subst e1 e2
    exact fun B H u v Q hs hu hv k => rd_I0 (fun _ => Dp.int _) B H u v Q hs hu hv fun w z B' H' hz g hw => k w z B' H' ⟨i - j, ⟨i, j, hi, hj, rfl⟩, hz⟩ g hw
theorem t_eqIR {R S : Int → Prop} (ha : PE X a (tD (zx X M) Γ (RI R))) (hb : PE X b (tD (zx X M) Γ (RI S))) : PT X (.Compare a [.Eq] [b] pos) (tDT (zx X M) Γ (fun k => ∃ i j, R i ∧ S j ∧ k = decide (i = j))) :=
  t_cmp op_eq ha hb (nomark _) fun x y ⟨i, hi, e1⟩ ⟨j, hj, e2⟩ => by
    subst e1 e2
    intro B H u v Q hs hu hv k
    rw [dpi hu, dpi hv]
    refine ⟨rfl, ?_⟩
    have e : decide (V.int i = V.int j) = decide (i = j) := by rw [dec_int, Bool.beq_eq_decide_eq]
    rw [e]
    exact k _ _ B H ⟨_, ⟨i, j, hi, hj, rfl⟩, rfl⟩ (Gr.refl hs) (Dp.bl _)
theorem x_ixG {Ra Rb R : VD → Prop} (ha : PE X a (tD (zx X M) Γ Ra)) (hb : PE X b (tD (zx X M) Γ Rb)) (h : ∀ x y, Ra x → Rb y → ∃ x' i z, x = .d x' ∧ y = .d (.int i) ∧ ixD x' i = some z ∧ R (.d z)) (hs : PlainIx b := by exact fun _ _ => rfl) : PE X (.Subscript a b pos) (tD (zx X M) Γ R) :=
  pe_imp (pe_ix ix_seq ha hb hs) (op_read fun x y hx hy => by
    obtain ⟨x', i, z, e1, e2, e3, e4⟩ := h x y hx hy
    subst e1 e2
    exact fun B H u v Q hs hu hv k => rd_ix e3 B H u v Q hs hu hv fun w z' B' H' hz g hw => k w z' B' H' (by rw [hz]; exact e4) g hw)
theorem x_lstR {R : List PyData → Prop} (h : PA X es (tDP (zx X M) Γ R)) (hl : ∀ ds, R ds → ds.length ≤ 1000) : PE X (.List es pos) (tD (zx X M) Γ (fun y => ∃ ds, R ds ∧ y = .d (.list ds))) := x_ofN (n_lstR h hl)
theorem ix_pool {pool : List (Int × Int)} {r : Int} (h0 : 0 ≤ r) (h : r < pool.length) : ∃ c ∈ pool, ixD (.list (pool.map fun c => ti [c.1, c.2])) r = some (ti [c.1, c.2]) := by
  have h' : r.toNat < pool.length := by omega
  refine ⟨pool[r.toNat], List.getElem_mem h', ?_⟩
  have e : r = ((r.toNat : Nat) : Int) := by omega
  have q : (pool.map fun c => ti [c.1, c.2])[r.toNat]? = some (ti [pool[r.toNat].1, pool[r.toNat].2]) := by
    rw [List.getElem?_map, List.getElem?_eq_getElem h']
    rfl
  have z := atI_nat q
  rw [← e] at z
  exact z
/-- a list of ints by what each is -/
theorem ints_of {n : Nat} {R : Int → Prop} : ∀ {ds : List PyData}, ds.length = n → (∀ i, i < n → ∃ d, ds[i]? = some d ∧ ∃ r, R r ∧ d = .int r) → ∃ s : List Int, s.length = n ∧ (∀ x ∈ s, R x) ∧ ds = s.map PyData.int
  := by
  induction n with
  | zero =>
    intro ds h _
    have : ds = [] := List.length_eq_zero_iff.mp h
    subst this
    exact ⟨[], rfl, fun x hx => (nomatch hx), rfl⟩
  | succ n ih =>
    intro ds h hd
    match ds, h with
    | d :: ds, h =>
      obtain ⟨d0, e0, r, hr, e1⟩ := hd 0 (Nat.succ_pos n)
      have e0 := Option.some.inj e0
      subst e0 e1
      obtain ⟨s, h1, h2, h3⟩ := ih (Nat.succ.inj h) fun i hi => hd (i + 1) (Nat.succ_lt_succ hi)
      refine ⟨r :: s, by rw [List.length_cons, h1], fun x hx => ?_, by rw [List.map_cons, h3]⟩
      rcases List.mem_cons.mp hx with rfl | hx
      · exact hr
      · exact h2 x hx
end
def slopes : List (Int × Int) := [(1, 1), (1, 2), (2, 1), (2, 3), (3, 2), (1, 3), (3, 1), (1, 4), (4, 1), (3, 4), (4, 3), (1, 0)]
structure Dom (s : List Int) (p q : Int) : Prop where
  h3 : s.length = 3
  hs : ∀ x ∈ s, 1 ≤ x ∧ x ≤ 12
  pq : (p, q) ∈ slopes
def Rcase : VD → Prop := fun y => ∃ s p q, Dom s p q ∧ y = .d (.list [li s, ti [p, q]])
section
variable {P : Program} {w : World} {K : PySem.W.Frag} {mg : Str → Option Value} {base : Heap} (T : Tx K mg)
include T
theorem c_law_case : Cal P w K mg base 3 "_law_case" (spH P w K (ι := Unit) (fun _ => []) (fun _ => True) (fun _ => Rcase)) := by
  obtain ⟨fd, F⟩ := T.D_law_case
  refine ⟨_, fd, _, fun_hand F sc_law_case (fun _ => rfl) (by decide) (fun i h cdv Ar outer s H E hC hr => ?_), T.g_law_case, F.kp, F.bindsN (ps := ["_law_hand_here"]) fun _ _ _ _ _ _ us hl => match us, hl with | [_], _ => rfl⟩
  have fin : ∀ (pool : List (Int × Int)) (hi : Int) (ds : List PyData) (z : PyData), (∀ c ∈ pool, c ∈ slopes) → hi ≤ 12 → (∃ d1, (d1.length = Int.toNat 3 ∧ ∀ i, i < Int.toNat 3 → ∃ d, d1[i]? = some d ∧ ∃ r, (∃ i j, i = 1 ∧ (0 ≤ j ∧ j < hi) ∧ r = i + j) ∧ d = .int r) ∧ ds = [.list d1, z]) → (∃ c ∈ pool, z = ti [c.1, c.2]) → Rcase (.d (.list ds)) := by
    rintro pool hi ds z hp h12 ⟨d1, ⟨e1, e2⟩, rfl⟩ ⟨c, hc, rfl⟩
    obtain ⟨s, h1, h2, h3⟩ := ints_of e1 e2
    refine ⟨s, c.1, c.2, ⟨h1, fun x hx => ?_, hp c hc⟩, by rw [h3]⟩
    obtain ⟨i, j, rfl, ⟨j0, j1⟩, rfl⟩ := h2 x hx
    omega
  refine s_cons (s_asgR (i := 1) sc_law_case.nd (x_take 0 (c_take T) hr x_int (by decide)) (fun r hr0 => ?_))
  obtain ⟨r, ⟨r0, r1⟩, rfl⟩ := hr0
  refine s_cons (s_if (t_eqI (x_var 1) x_int) (fun _ => ?_) (fun _ => s_nil ?_))
  · let pool : List (Int × Int) := [(1, 1), (1, 2), (2, 1), (2, 3), (3, 2), (1, 3), (3, 1), (1, 4), (4, 1)]
    refine s_cons (s_asg 2 (r := .d (.list (pool.map fun c => ti [c.1, c.2]))) sc_law_case.nd (x_lst (xp_cons (x_tup (xp_cons x_int (xp_cons x_int xp_nil))) (xp_cons (x_tup (xp_cons x_int (xp_cons x_int xp_nil))) (xp_cons (x_tup (xp_cons x_int (xp_cons x_int xp_nil))) (xp_cons (x_tup (xp_cons x_int (xp_cons x_int xp_nil))) (xp_cons (x_tup (xp_cons x_int (xp_cons x_int xp_nil))) (xp_cons (x_tup (xp_cons x_int (xp_cons x_int xp_nil))) (xp_cons (x_tup (xp_cons x_int (xp_cons x_int xp_nil))) (xp_cons (x_tup (xp_cons x_int (xp_cons x_int xp_nil))) (xp_cons (x_tup (xp_cons x_int (xp_cons x_int xp_nil))) xp_nil))))))))) (by exact Nat.le_of_ble_eq_true rfl)) ?_)
    refine s_one (s_retR (x_lstR (R := fun l => ∃ d1 z, (d1.length = Int.toNat 3 ∧ ∀ i, i < Int.toNat 3 → ∃ d, d1[i]? = some d ∧ ∃ r, (∃ i j, i = 1 ∧ (0 ≤ j ∧ j < 6) ∧ r = i + j) ∧ d = .int r) ∧ (∃ c ∈ pool, z = ti [c.1, c.2]) ∧ l = [.list d1, z]) (xp_consR (x_ofN (n_lcN 3 (fun _ d => ∃ r, (∃ i j, i = 1 ∧ (0 ≤ j ∧ j < 6) ∧ r = i + j) ∧ d = .int r) rfl sc_law_case.nd (wlk_rng1 (by omega)) (p_rng1 T.f_range x_int) (blkOk_by (N := N_law_case) (sc := defScope st_law_case) (own := [("_law_axis", 3)]) (by decide +kernel)) (fun _ _ _ _ _ => pg_name (i := 3) sc_law_case.nd rfl (Or.inl rfl)) (fun i hi _ _ _ _ _ => x_mono (x_addR (x_rI x_int) (x_take 0 (c_take T) hr x_int (by decide))) (fun r ⟨z, hz, e⟩ => ⟨.int z, ⟨z, hz, rfl⟩, e⟩)) (by decide))) (xp_consR (Rz := fun l => ∃ z, (∃ c ∈ pool, z = ti [c.1, c.2]) ∧ l = [z]) (x_ixG (R := fun y => ∃ z, (∃ c ∈ pool, z = ti [c.1, c.2]) ∧ y = .d z) (x_var 2) (x_take 0 (c_take T) hr x_int (by decide)) (fun x y hx ⟨r, ⟨r0, r1⟩, e⟩ => by
        obtain ⟨c, hc, e3⟩ := ix_pool (pool := pool) r0 (by exact r1)
        exact ⟨.list (pool.map fun c => ti [c.1, c.2]), r, _, hx, e, e3, _, ⟨c, hc, rfl⟩, rfl⟩)) xp_nil (fun r rs ⟨z, hz, e⟩ e2 => ⟨z, e, z, hz, by rw [e2]⟩)) (fun r rs ⟨d1, hd, e⟩ ⟨z, hz, e2⟩ => ⟨_, e, d1, z, hd, hz, by rw [e2]⟩)) (fun ds ⟨d1, z, _, _, e⟩ => by rw [e]; show 2 ≤ 1000; decide)) (fun r ⟨ds, ⟨d1, z, h1, h2, e1⟩, e2⟩ => ?_))
    show Rcase r
    rw [e2]
    exact fin pool 6 ds z (by decide) (by decide) ⟨d1, h1, e1⟩ h2
  refine s_cons (s_if (t_eqI (x_var 1) x_int) (fun _ => ?_) (fun _ => s_nil ?_))
  · let pool : List (Int × Int) := [(1, 1), (1, 2), (2, 1), (2, 3), (3, 2), (1, 3), (3, 1), (1, 4), (4, 1), (3, 4), (4, 3)]
    refine s_cons (s_asg 2 (r := .d (.list (pool.map fun c => ti [c.1, c.2]))) sc_law_case.nd (x_lst (xp_cons (x_tup (xp_cons x_int (xp_cons x_int xp_nil))) (xp_cons (x_tup (xp_cons x_int (xp_cons x_int xp_nil))) (xp_cons (x_tup (xp_cons x_int (xp_cons x_int xp_nil))) (xp_cons (x_tup (xp_cons x_int (xp_cons x_int xp_nil))) (xp_cons (x_tup (xp_cons x_int (xp_cons x_int xp_nil))) (xp_cons (x_tup (xp_cons x_int (xp_cons x_int xp_nil))) (xp_cons (x_tup (xp_cons x_int (xp_cons x_int xp_nil))) (xp_cons (x_tup (xp_cons x_int (xp_cons x_int xp_nil))) (xp_cons (x_tup (xp_cons x_int (xp_cons x_int xp_nil))) (xp_cons (x_tup (xp_cons x_int (xp_cons x_int xp_nil))) (xp_cons (x_tup (xp_cons x_int (xp_cons x_int xp_nil))) xp_nil))))))))))) (by exact Nat.le_of_ble_eq_true rfl)) ?_)
    refine s_one (s_retR (x_lstR (R := fun l => ∃ d1 z, (d1.length = Int.toNat 3 ∧ ∀ i, i < Int.toNat 3 → ∃ d, d1[i]? = some d ∧ ∃ r, (∃ i j, i = 1 ∧ (0 ≤ j ∧ j < 4) ∧ r = i + j) ∧ d = .int r) ∧ (∃ c ∈ pool, z = ti [c.1, c.2]) ∧ l = [.list d1, z]) (xp_consR (x_ofN (n_lcN 3 (fun _ d => ∃ r, (∃ i j, i = 1 ∧ (0 ≤ j ∧ j < 4) ∧ r = i + j) ∧ d = .int r) rfl sc_law_case.nd (wlk_rng1 (by omega)) (p_rng1 T.f_range x_int) (blkOk_by (N := N_law_case) (sc := defScope st_law_case) (own := [("_law_axis", 3)]) (by decide +kernel)) (fun _ _ _ _ _ => pg_name (i := 3) sc_law_case.nd rfl (Or.inl rfl)) (fun i hi _ _ _ _ _ => x_mono (x_addR (x_rI x_int) (x_take 0 (c_take T) hr x_int (by decide))) (fun r ⟨z, hz, e⟩ => ⟨.int z, ⟨z, hz, rfl⟩, e⟩)) (by decide))) (xp_consR (Rz := fun l => ∃ z, (∃ c ∈ pool, z = ti [c.1, c.2]) ∧ l = [z]) (x_ixG (R := fun y => ∃ z, (∃ c ∈ pool, z = ti [c.1, c.2]) ∧ y = .d z) (x_var 2) (x_take 0 (c_take T) hr x_int (by decide)) (fun x y hx ⟨r, ⟨r0, r1⟩, e⟩ => by
        obtain ⟨c, hc, e3⟩ := ix_pool (pool := pool) r0 (by exact r1)
        exact ⟨.list (pool.map fun c => ti [c.1, c.2]), r, _, hx, e, e3, _, ⟨c, hc, rfl⟩, rfl⟩)) xp_nil (fun r rs ⟨z, hz, e⟩ e2 => ⟨z, e, z, hz, by rw [e2]⟩)) (fun r rs ⟨d1, hd, e⟩ ⟨z, hz, e2⟩ => ⟨_, e, d1, z, hd, hz, by rw [e2]⟩)) (fun ds ⟨d1, z, _, _, e⟩ => by rw [e]; show 2 ≤ 1000; decide)) (fun r ⟨ds, ⟨d1, z, h1, h2, e1⟩, e2⟩ => ?_))
    show Rcase r
    rw [e2]
    exact fin pool 4 ds z (by decide) (by decide) ⟨d1, h1, e1⟩ h2
  refine s_cons (s_if (t_eqI (x_var 1) x_int) (fun _ => ?_) (fun _ => s_nil ?_))
  · let pool : List (Int × Int) := [(1, 0)]
    refine s_one (s_retR (x_lstR (R := fun l => ∃ d1 z, (d1.length = Int.toNat 3 ∧ ∀ i, i < Int.toNat 3 → ∃ d, d1[i]? = some d ∧ ∃ r, (∃ i j, i = 1 ∧ (0 ≤ j ∧ j < 12) ∧ r = i + j) ∧ d = .int r) ∧ (∃ c ∈ pool, z = ti [c.1, c.2]) ∧ l = [.list d1, z]) (xp_consR (x_ofN (n_lcN 3 (fun _ d => ∃ r, (∃ i j, i = 1 ∧ (0 ≤ j ∧ j < 12) ∧ r = i + j) ∧ d = .int r) rfl sc_law_case.nd (wlk_rng1 (by omega)) (p_rng1 T.f_range x_int) (blkOk_by (N := N_law_case) (sc := defScope st_law_case) (own := [("_law_axis", 3)]) (by decide +kernel)) (fun _ _ _ _ _ => pg_name (i := 3) sc_law_case.nd rfl (Or.inl rfl)) (fun i hi _ _ _ _ _ => x_mono (x_addR (x_rI x_int) (x_take 0 (c_take T) hr x_int (by decide))) (fun r ⟨z, hz, e⟩ => ⟨.int z, ⟨z, hz, rfl⟩, e⟩)) (by decide))) (xp_consR (Rz := fun l => ∃ z, (∃ c ∈ pool, z = ti [c.1, c.2]) ∧ l = [z]) (x_mono (R' := fun y => ∃ z, (∃ c ∈ pool, z = ti [c.1, c.2]) ∧ y = .d z) (x_tup (ds := [.int 1, .int 0]) (xp_cons x_int (xp_cons x_int xp_nil))) (fun y e => ⟨ti [1, 0], ⟨(1, 0), List.mem_cons_self, rfl⟩, e⟩)) xp_nil (fun r rs ⟨z, hz, e⟩ e2 => ⟨z, e, z, hz, by rw [e2]⟩)) (fun r rs ⟨d1, hd, e⟩ ⟨z, hz, e2⟩ => ⟨_, e, d1, z, hd, hz, by rw [e2]⟩)) (fun ds ⟨d1, z, _, _, e⟩ => by rw [e]; show 2 ≤ 1000; decide)) (fun r ⟨ds, ⟨d1, z, h1, h2, e1⟩, e2⟩ => ?_))
    show Rcase r
    rw [e2]
    exact fin pool 12 ds z (by decide) (by decide) ⟨d1, h1, e1⟩ h2
  let pool : List (Int × Int) := [(1, 1), (1, 2), (2, 1), (2, 3), (3, 2), (1, 3), (3, 1)]
  refine s_cons (s_asg 2 (r := .d (.list (pool.map fun c => ti [c.1, c.2]))) sc_law_case.nd (x_lst (xp_cons (x_tup (xp_cons x_int (xp_cons x_int xp_nil))) (xp_cons (x_tup (xp_cons x_int (xp_cons x_int xp_nil))) (xp_cons (x_tup (xp_cons x_int (xp_cons x_int xp_nil))) (xp_cons (x_tup (xp_cons x_int (xp_cons x_int xp_nil))) (xp_cons (x_tup (xp_cons x_int (xp_cons x_int xp_nil))) (xp_cons (x_tup (xp_cons x_int (xp_cons x_int xp_nil))) (xp_cons (x_tup (xp_cons x_int (xp_cons x_int xp_nil))) xp_nil))))))) (by exact Nat.le_of_ble_eq_true rfl)) ?_)
  refine s_one (s_retR (x_lstR (R := fun l => ∃ d1 z, (d1.length = Int.toNat 3 ∧ ∀ i, i < Int.toNat 3 → ∃ d, d1[i]? = some d ∧ ∃ r, (∃ i j, i = 1 ∧ (0 ≤ j ∧ j < 3) ∧ r = i + j) ∧ d = .int r) ∧ (∃ c ∈ pool, z = ti [c.1, c.2]) ∧ l = [.list d1, z]) (xp_consR (x_ofN (n_lcN 3 (fun _ d => ∃ r, (∃ i j, i = 1 ∧ (0 ≤ j ∧ j < 3) ∧ r = i + j) ∧ d = .int r) rfl sc_law_case.nd (wlk_rng1 (by omega)) (p_rng1 T.f_range x_int) (blkOk_by (N := N_law_case) (sc := defScope st_law_case) (own := [("_law_axis", 3)]) (by decide +kernel)) (fun _ _ _ _ _ => pg_name (i := 3) sc_law_case.nd rfl (Or.inl rfl)) (fun i hi _ _ _ _ _ => x_mono (x_addR (x_rI x_int) (x_take 0 (c_take T) hr x_int (by decide))) (fun r ⟨z, hz, e⟩ => ⟨.int z, ⟨z, hz, rfl⟩, e⟩)) (by decide))) (xp_consR (Rz := fun l => ∃ z, (∃ c ∈ pool, z = ti [c.1, c.2]) ∧ l = [z]) (x_ixG (R := fun y => ∃ z, (∃ c ∈ pool, z = ti [c.1, c.2]) ∧ y = .d z) (x_var 2) (x_take 0 (c_take T) hr x_int (by decide)) (fun x y hx ⟨r, ⟨r0, r1⟩, e⟩ => by
      obtain ⟨c, hc, e3⟩ := ix_pool (pool := pool) r0 (by exact r1)
      exact ⟨.list (pool.map fun c => ti [c.1, c.2]), r, _, hx, e, e3, _, ⟨c, hc, rfl⟩, rfl⟩)) xp_nil (fun r rs ⟨z, hz, e⟩ e2 => ⟨z, e, z, hz, by rw [e2]⟩)) (fun r rs ⟨d1, hd, e⟩ ⟨z, hz, e2⟩ => ⟨_, e, d1, z, hd, hz, by rw [e2]⟩)) (fun ds ⟨d1, z, _, _, e⟩ => by rw [e]; show 2 ≤ 1000; decide)) (fun r ⟨ds, ⟨d1, z, h1, h2, e1⟩, e2⟩ => ?_))
  show Rcase r
  rw [e2]
  exact fin pool 3 ds z (by decide) (by decide) ⟨d1, h1, e1⟩ h2
end
end K27
set_option maxHeartbeats 4000000
/-! What is drawn: strips, spoilt strips. -/
namespace K27
open PySem PySem.Spec PyProof.Rows L2
local macro_rules | `(tactic| walk_at "c") => `(tactic| first | trivial | assumption | (dsimp only; (repeat' apply And.intro) <;> first | assumption | trivial | omega) | ((repeat' apply And.intro) <;> first | assumption | trivial | omega))
local macro_rules | `(tactic| walk_at "ix") => `(tactic| (try dsimp only); first | exact ix_ti (by omega) (by omega) | exact ix_li (by omega) (by omega) | exact ix_frames (by omega) (by omega) | rfl)
local macro_rules | `(tactic| walk_at "sx") => `(tactic| (try dsimp only); exact ixN_of (by omega) (by first | omega | (simp only [List.length_set, List.length_map, List.length_cons, List.length_nil]; omega)))
local macro_rules | `(tactic| walk_at "div") => `(tactic| (try dsimp only); first | exact ⟨by omega, by omega⟩ | omega)
local macro_rules | `(tactic| walk_at "mul") => `(tactic| (try dsimp only); first | exact .inl ⟨by omega, by omega⟩ | exact .inr ⟨by omega, by omega⟩)
structure DomX (s : List Int) (p q : Int) : Prop where
  pre : Pre s p q
  all : ∀ f d, 0 ≤ f → f < 6 → d ∈ fourM f p q → Pr2 f d ∧ dirR (.int f) d = .ok d ∧ lstMin (rngL s f d) = lstMin (toldM s f d) ∧ lstMax (rngL s f d) = lstMax (toldM s f d) ∧ lstMin (toldM s f d) < lstMax (toldM s f d) ∧ lstMax (toldM s f d) - lstMin (toldM s f d) < 1000000 ∧ -1000000 ≤ lstMin (toldM s f d) ∧ lstMin (toldM s f d) ≤ 1000000
structure RowD (s : List Int) (p q : Int) (r : Str4) : Prop where
  f0 : 0 ≤ r.1
  f6 : r.1 < 6
  d4 : r.2.1 ∈ fourM r.1 p q
  lo : lstMin (toldM s r.1 r.2.1) ≤ r.2.2.1
  lh : r.2.2.1 < r.2.2.2
  hi : r.2.2.2 ≤ lstMax (toldM s r.1 r.2.1)
section
variable {P : Program} {w : World} {K : PySem.W.Frag} {mg : Str → Option Value} {base : Heap} (T : Tx K mg)
include T
theorem c_some_strip : Cal P w K mg base 5 "_law_some_strip" (spH P w K (ι := List Int × Int × Int) (fun i => [.d (li i.1), .d (ti [i.2.1, i.2.2])]) (fun i => DomX i.1 i.2.1 i.2.2) (fun i y => ∃ r, RowD i.1 i.2.1 i.2.2 r ∧ y = .d (rowD r))) := by
  obtain ⟨fd, F⟩ := T.D_law_some_strip
  refine ⟨_, fd, _, fun_hand F sc_law_some_strip (fun _ => rfl) (by decide) (fun ⟨s', p, q⟩ h cdv Ar outer s H E hC hr => ?_), T.g_law_some_strip, F.kp, F.bindsN (ps := ["_law_hand_here", "_law_sides", "_law_slope"]) fun _ _ _ _ _ _ us hl => match us, hl with | [_, _, _], _ => rfl⟩
  have hC : DomX s' p q := hC
  refine s_cons (s_asgR (i := 3) sc_law_some_strip.nd (x_take 0 (c_take T) hr x_int (by decide)) (fun r hr0 => ?_))
  obtain ⟨f, ⟨f0, f6⟩, rfl⟩ := hr0
  refine s_cons (s_asgR (i := 4) sc_law_some_strip.nd (x_ixG (R := fun y => ∃ d, d ∈ fourM f p q ∧ y = .d (ti d)) (x_call (c_law_four T) hr (f, p, q) (xa_cons (x_var 3) (xa_cons (x_var 2) xa_nil)) (by exact ⟨f0, f6⟩)) (x_take 0 (c_take T) hr x_int (by decide)) (fun x y hx ⟨r, ⟨r0, r1⟩, e⟩ => ⟨_, r, _, hx, e, ix_ll r0 (by exact r1), _, by
    rw [List.getD_eq_getElem?_getD, List.getElem?_eq_getElem (show r.toNat < (fourM f p q).length by show r.toNat < 4; omega)]
    exact List.getElem_mem _, rfl⟩)) (fun r hr0 => ?_))
  obtain ⟨d, hd, rfl⟩ := hr0
  obtain ⟨h2, hdir, e1, e2, hlt, hbd⟩ := hC.all f d f0 f6 hd
  generalize em : lstMin (toldM s' f d) = least at *
  generalize eM : lstMax (toldM s' f d) = greatest at *
  refine s_cons (s_unpack [5, 6] rfl (x_eq (x_call (c_law_range T) hr (s', f, d) (xa_cons (x_var 1) (xa_cons (x_var 3) (xa_cons (x_var 4) xa_nil))) (by exact ⟨hC.pre.h3, hC.pre.hs, f0, f6, h2.hd, h2.hB.mono (by decide)⟩)) (r' := .d (.tuple [.int least, .int greatest])) (by show VD.d (.tuple [.int (lstMin (toldM s' f d)), .int (lstMax (toldM s' f d))]) = _; rw [em, eM])) (show PGs _ _ (gNs [5, 6]) from (pgs_cons (pg_name (i := 5) sc_law_some_strip.nd rfl (Or.inl rfl)) (pgs_cons (pg_name (i := 6) sc_law_some_strip.nd rfl (Or.inl rfl)) pgs_nil))) ?_)
  refine s_cons (s_asgR (i := 7) sc_law_some_strip.nd (x_addR (x_rI (x_var 5)) (x_take 0 (c_take T) hr (x_sub (x_var 6) (x_var 5)) (by exact ⟨by omega, by omega⟩))) (fun r hr0 => ?_))
  obtain ⟨lo, ⟨i, j, rfl, ⟨j0, j1⟩, rfl⟩, rfl⟩ := hr0
  generalize el : i + j = lo
  refine s_cons (s_asgR (i := 8) (R := RI (fun m => 1 ≤ m ∧ m ≤ greatest - lo)) sc_law_some_strip.nd (x_if (t_eqIR (x_take 0 (c_take T) hr x_int (by decide)) (x_rI x_int)) (fun _ => x_mono x_int (fun r e => ⟨1, ⟨by decide, by omega⟩, e⟩)) (fun _ => x_mono (x_sub (x_var 6) (x_var 7)) (fun r e => ⟨greatest - lo, ⟨by omega, Int.le_refl _⟩, e⟩))) (fun r hr0 => ?_))
  obtain ⟨m, ⟨m0, m1⟩, rfl⟩ := hr0
  refine s_one (s_retR (x_tupR (R := fun l => ∃ z, (∃ i j, i = lo + 1 ∧ (0 ≤ j ∧ j < m) ∧ z = i + j) ∧ l = [.int f, ti d, .int lo, .int z]) (xp_consR (Rr := fun l => ∃ z, (∃ i j, i = lo + 1 ∧ (0 ≤ j ∧ j < m) ∧ z = i + j) ∧ l = [ti d, .int lo, .int z]) (x_var 3) (xp_consR (Rr := fun l => ∃ z, (∃ i j, i = lo + 1 ∧ (0 ≤ j ∧ j < m) ∧ z = i + j) ∧ l = [.int lo, .int z]) (x_var 4) (xp_consR (Rr := fun l => ∃ z, (∃ i j, i = lo + 1 ∧ (0 ≤ j ∧ j < m) ∧ z = i + j) ∧ l = [.int z]) (x_var 7) (xp_consR (x_addR (x_rI (x_add (x_var 7) x_int)) (x_take 0 (c_take T) hr (x_var 8) (by exact ⟨by omega, by omega⟩))) xp_nil (fun r rs ⟨z, hz, e⟩ e2 => ⟨_, e, z, hz, by rw [e2]⟩)) (fun r rs e ⟨z, hz, e2⟩ => ⟨_, e, z, hz, by rw [e2]⟩)) (fun r rs e ⟨z, hz, e2⟩ => ⟨_, e, z, hz, by rw [e2]⟩)) (fun r rs e ⟨z, hz, e2⟩ => ⟨_, e, z, hz, by rw [e2]⟩)) (fun ds ⟨z, _, e⟩ => by rw [e]; show 4 ≤ 1000; decide)) (fun r ⟨ds, ⟨z, ⟨i', j', e3, ⟨k0, k1⟩, e4⟩, e5⟩, e6⟩ => ?_))
  refine ⟨(f, d, lo, z), ⟨f0, f6, hd, ?_, ?_, ?_⟩, by rw [e6, e5]; rfl⟩
  · show lstMin (toldM s' f d) ≤ lo
    omega
  · show lo < z
    omega
  · show z ≤ lstMax (toldM s' f d)
    omega
end
end K27
set_option maxHeartbeats 4000000
/-! Spoilt strips. -/
namespace K27
open PySem PySem.Spec PyProof.Rows L2
local macro_rules | `(tactic| walk_at "c") => `(tactic| first | trivial | assumption | (dsimp only; (repeat' apply And.intro) <;> first | assumption | trivial | omega) | ((repeat' apply And.intro) <;> first | assumption | trivial | omega))
local macro_rules | `(tactic| walk_at "ix") => `(tactic| (try dsimp only); first | exact ix_ti (by omega) (by omega) | exact ix_li (by omega) (by omega) | exact ix_frames (by omega) (by omega) | rfl)
local macro_rules | `(tactic| walk_at "sx") => `(tactic| (try dsimp only); exact ixN_of (by omega) (by first | omega | (simp only [List.length_set, List.length_map, List.length_cons, List.length_nil]; omega)))
local macro_rules | `(tactic| walk_at "div") => `(tactic| (try dsimp only); first | exact ⟨by omega, by omega⟩ | omega)
local macro_rules | `(tactic| walk_at "mul") => `(tactic| (try dsimp only); first | exact .inl ⟨by omega, by omega⟩ | exact .inr ⟨by omega, by omega⟩)
section
variable {X : Cx} {M : Option Addr} {E : XK} {Γ : Gm} {P : O → Prop} {a b e : Expr} {pos p : Pos} {x : Str}
/-- xs[i] = e, e by what it may be -/
theorem s_setIR (j : Nat) {R : PyData → Prop} {ds : List PyData} {n : Int} {m : Nat} {ie : Expr} {q : Pos} (he : PE X e (tD (zx X M) Γ (fun r => ∃ y, R y ∧ r = .d y))) (hi : PE X ie (tD (zx X M) Γ (fun r => r = .d (.int n)))) (hm : ixN ds.length n = some m) (h : ∀ y, R y → P (.nx (Γ.set j (some (.mu (ds.set m y)))))) (hG : Γ[j]? = some (some (.mu ds)) := by rfl)
    (hN : X.N[j]? = some x := by rfl) (hv : Vis X.env.scope x := by first | exact Or.inl rfl | exact Or.inr (Or.inl rfl) | exact Or.inr (Or.inr rfl)) (hd : (x == ("__debug__" : Str)) = false := by decide) (hcd : (x == ("__classdict__" : Str)) = false := by decide)
    (ha : ∀ v, assign (.Subscript (.Name x q) ie p) X.env v = (do
      let ov ← holding [v] (eval (.Name x q) X.env)
      let iv ← holding [v, ov] (eval ie X.env)
      standAt p
      holding [v, ov, iv] (setItem ov iv v)
      release [v, ov, iv] []) := by intro _; rfl)
    (hs : swapsWithSole [.Subscript (.Name x q) ie p] e pos.line X.env = pure false := by rfl) (hw : swappedStores [.Subscript (.Name x q) ie p] e X.env = pure none := by rfl)
    (h1 : (assignEach [.Subscript (.Name x q) ie p] X.env).map (·.2) = [assign (.Subscript (.Name x q) ie p) X.env] := by rfl) : PS X (.Assign [.Subscript (.Name x q) ie p] e pos) (tO (zx X M) E Γ P) :=
  ps_imp (ps_asg he (pg_sub (pv j hN hv hd hcd) hi set_list ha) hs hw h1) fun D σ H ⟨B0, H0, B, o, k⟩ => ⟨B0, H0, B, o, fun v r B1 H1 hr g1 o1 hv => by
    obtain ⟨y, hy, hr⟩ := hr
    subst hr
    obtain ⟨l, vs, q1, _, _, _⟩ := v_mu o1 hG
    refine ⟨.ref l, q1, B0, H0, B1, o1, fun w r B2 H2 hr g2 o2 hw => ?_⟩
    subst hr
    obtain ⟨l2, vs, p1, p2, p3, p4⟩ := v_mu o2 hG
    rw [q1] at p1
    have e1 := V.ref.inj (Option.some.inj (Option.some.inj p1))
    subst e1
    exact ⟨l, vs, n, m, rfl, dpi hw, p2, by rw [dpall_len p3]; exact hm, k.nx _ σ B2 _ (h y hy) (p4 _ _ (dpall_set (dp_mono g2.bb _ _ hv) m p3)) (g1.bb.trans g2.bb)⟩⟩
/-- [instance, data] -/
theorem x_l2 {C : Addr} {fs : List (Str × PyData)} {y : PyData} (ha : PE X a (tD (zx X M) Γ (fun r => r = .ob C fs))) (hb : PE X b (tD (zx X M) Γ (fun r => r = .d y))) (hs2 : starEach [b] X.env = (false, eval b X.env) :: starEach [] X.env := by rfl) (hs : starEach [a, b] X.env = (false, eval a X.env) :: starEach [b] X.env := by rfl) : PE X (.List [a, b] pos) (tD (zx X M) Γ (fun r => r = .l2 C fs y)) :=
  pe_imp (pe_lst (xa_cons ha (xa_cons hb xa_nil hs2) hs)) fun σ H Q ⟨B0, H0, B, o, k⟩ => ⟨B0, H0, B, o, fun vs rs B1 H1 hr g1 o1 hvs => by
    subst hr
    obtain ⟨u, v, rfl, h1, h2⟩ := vs2 hvs
    refine ⟨(by show 2 ≤ sizeLine; decide), fun l hl => ?_⟩
    have g := Gr.new o1.bh (o := .lst [u, v]) hl
    obtain ⟨a, dx, ws, rfl, q1, q2, q3⟩ := h1
    exact k _ _ _ _ rfl (g1.trans g.lift) (o1.grow g) ⟨l, a, v, dx, ws, rfl, .inl (.inl upd_same), g.bb _ _ q1, q2, dpall_mono g.bb _ _ q3, dp_mono g.bb _ _ h2⟩⟩
end
def bitN (bits : Int) (k : Nat) : Bool := decide (bits / 2 ^ (0 + (k : Int)).toNat % 2 = 1)
def isNd : PyData → Bool
  | .none => true
  | _ => false
def toldN (g bad : List PyData) (bits : Int) : Nat → List PyData
  | 0 => g
  | n + 1 => if bitN bits n = true then (toldN g bad bits n).set n (bad.getD n .none) else toldN g bad bits n
def dueN (dues : List PyData) (bits : Int) : Nat → PyData
  | 0 => .none
  | n + 1 => if bitN bits n = true then (if isNd (dueN dues bits n) = true then dues.getD n .none else dueN dues bits n) else dueN dues bits n
theorem toldN_len (g bad : List PyData) (bits : Int) : ∀ n, (toldN g bad bits n).length = g.length
  | 0 => rfl
  | n + 1 => by
    unfold toldN
    split
    · rw [List.length_set, toldN_len g bad bits n]
    · exact toldN_len g bad bits n
inductive DueOf : Str → Str → PyData → PyData → Prop
  | face (x : PyData) : DueOf "BadFace" "face" x (.tuple [.str "face", x])
  | dir (x : PyData) : DueOf "BadDirection" "what" x (.tuple [.str "direction", x])
  | strip (x : PyData) : DueOf "BadStrip" "what" x (.tuple [.str "strip", x])
/-- what a spoilt strip is like -/
structure Spo (s : List Int) (fd dd lo hi due : PyData) : Prop where
  ex : ∃ (b : Bool) (l : List Int) (c f : Str) (x : PyData), (wholeD fd 0 5 = true → dd = seqD b (l.map PyData.int) ∧ Bd 10000 l) ∧ ckR s fd lo hi l = .no c f x ∧ DueOf c f x due ∧ SeqAt.shaped due = true
structure Bads (s : List Int) (f : Int) (d : List Int) (lo hi : Int) (bf bs bl bh word : PyData) : Prop where
  f1 : wholeD bf 0 5 = false
  s1 : ∃ lb, bs = ti lb ∧ Bd 10000 lb ∧ dirR (.int f) lb = .no "BadDirection" "what" word
  l1 : wholeD bl (lstMin (rngL s f d)) (lstMax (rngL s f d) - 1) = false
  h1 : wholeD bh (lo + 1) (lstMax (rngL s f d)) = false
  sf : SeqAt.shaped (.tuple [.str "face", bf]) = true
  sw : SeqAt.shaped (.tuple [.str "direction", word]) = true
theorem sh_low : SeqAt.shaped (.tuple [.str "strip", .str "low"]) = true := by decide +kernel
theorem sh_high : SeqAt.shaped (.tuple [.str "strip", .str "high"]) = true := by decide +kernel
theorem spo_of {s : List Int} {f : Int} {d : List Int} {lo hi bits : Int} {bf bs bl bh word : PyData} (o : ckR s (.int f) (.int lo) (.int hi) d = .ok (f, d, lo, hi)) (hB : Bd 10000 d) (B : Bads s f d lo hi bf bs bl bh word) (b0 : 1 ≤ bits) (b1 : bits ≤ 15) :
    Spo s ((toldN [.int f, ti d, .int lo, .int hi] [bf, bs, bl, bh] bits 4).getD 0 .none) ((toldN [.int f, ti d, .int lo, .int hi] [bf, bs, bl, bh] bits 4).getD 1 .none) ((toldN [.int f, ti d, .int lo, .int hi] [bf, bs, bl, bh] bits 4).getD 2 .none) ((toldN [.int f, ti d, .int lo, .int hi] [bf, bs, bl, bh] bits 4).getD 3 .none)
      (dueN [.tuple [.str "face", bf], .tuple [.str "direction", word], .tuple [.str "strip", .str "low"], .tuple [.str "strip", .str "high"]] bits 4) := by
  have ck := o
  unfold ckR at ck
  rcases rz_cases (dirR (.int f) d) with ⟨c, fl, z, q⟩ | ⟨d', q⟩
  · rw [q] at ck
    cases ck
  obtain ⟨hw, _, h0, h6, e2, hl, _⟩ := dirR_ok q
  have e2 : d' = d := e2
  subst e2
  rw [q] at ck
  dsimp only at ck
  have hlo : wholeD (.int lo) (lstMin (rngL s f d')) (lstMax (rngL s f d') - 1) = true := by
    cases hz : wholeD (.int lo) (lstMin (rngL s f d')) (lstMax (rngL s f d') - 1) with
    | true => rfl
    | false =>
      rw [if_neg (by intro z; rw [show wholeD (.int lo) (lstMin (rngL s f d')) (lstMax (rngL s f d') - 1) = true from z] at hz; cases hz)] at ck
      cases ck
  obtain ⟨lb, eb, hBb, hdb⟩ := B.s1
  have face : ∀ (dd a b : PyData) (due : PyData), due = .tuple [.str "face", bf] → Spo s bf dd a b due := fun dd a b due e => by
    rw [e]
    refine ⟨false, [], "BadFace", "face", bf, fun z => (by rw [B.f1] at z; cases z), ?_, .face bf, B.sf⟩
    unfold ckR dirR
    rw [if_neg (by rw [B.f1]; decide)]
  have dir : ∀ (a b : PyData) (due : PyData), due = .tuple [.str "direction", word] → Spo s (.int f) bs a b due := fun a b due e => by
    rw [e]
    refine ⟨false, lb, "BadDirection", "what", word, fun _ => ⟨eb, hBb⟩, ?_, .dir word, B.sw⟩
    unfold ckR
    rw [hdb]
  have low : ∀ (b : PyData) (due : PyData), due = .tuple [.str "strip", .str "low"] → Spo s (.int f) (ti d') bl b due := fun b due e => by
    rw [e]
    refine ⟨false, d', "BadStrip", "what", .str "low", fun _ => ⟨rfl, hB⟩, ?_, .strip _, sh_low⟩
    unfold ckR
    rw [q]
    exact if_neg (fun z => by
      have z : wholeD bl (lstMin (rngL s f d')) (lstMax (rngL s f d') - 1) = true := z
      rw [B.l1] at z
      cases z)
  have high : ∀ (due : PyData), due = .tuple [.str "strip", .str "high"] → Spo s (.int f) (ti d') (.int lo) bh due := fun due e => by
    rw [e]
    refine ⟨false, d', "BadStrip", "what", .str "high", fun _ => ⟨rfl, hB⟩, ?_, .strip _, sh_high⟩
    unfold ckR
    rw [q]
    show (if wholeD (.int lo) (lstMin (rngL s f d')) (lstMax (rngL s f d') - 1) = true then _ else _) = _
    rw [if_pos hlo]
    exact if_neg (fun z => by
      have z : wholeD bh (lo + 1) (lstMax (rngL s f d')) = true := z
      rw [B.h1] at z
      cases z)
  have : bits = 1 ∨ bits = 2 ∨ bits = 3 ∨ bits = 4 ∨ bits = 5 ∨ bits = 6 ∨ bits = 7 ∨ bits = 8 ∨ bits = 9 ∨ bits = 10 ∨ bits = 11 ∨ bits = 12 ∨ bits = 13 ∨ bits = 14 ∨ bits = 15 := by omega
  rcases this with rfl | rfl | rfl | rfl | rfl | rfl | rfl | rfl | rfl | rfl | rfl | rfl | rfl | rfl | rfl
  · exact face _ _ _ _ rfl
  · exact dir _ _ _ rfl
  · exact face _ _ _ _ rfl
  · exact low _ _ rfl
  · exact face _ _ _ _ rfl
  · exact dir _ _ _ rfl
  · exact face _ _ _ _ rfl
  · exact high _ rfl
  · exact face _ _ _ _ rfl
  · exact dir _ _ _ rfl
  · exact face _ _ _ _ rfl
  · exact low _ _ rfl
  · exact face _ _ _ _ rfl
  · exact dir _ _ _ rfl
  · exact face _ _ _ _ rfl
end K27
set_option maxHeartbeats 4000000
/-! Spoilt strips: the walk. -/
namespace K27
open PySem PySem.Spec PyProof.Rows L2
local macro_rules | `(tactic| walk_at "c") => `(tactic| first | trivial | assumption | (dsimp only; (repeat' apply And.intro) <;> first | assumption | trivial | omega) | ((repeat' apply And.intro) <;> first | assumption | trivial | omega))
local macro_rules | `(tactic| walk_at "ix") => `(tactic| (try dsimp only); first | exact ix_ti (by omega) (by omega) | exact ix_li (by omega) (by omega) | exact ix_frames (by omega) (by omega) | rfl)
local macro_rules | `(tactic| walk_at "sx") => `(tactic| (try dsimp only); exact ixN_of (by omega) (by first | omega | (simp only [List.length_set, List.length_map, List.length_cons, List.length_nil]; omega)))
local macro_rules | `(tactic| walk_at "div") => `(tactic| (try dsimp only); first | exact ⟨by omega, by omega⟩ | omega)
local macro_rules | `(tactic| walk_at "mul") => `(tactic| (try dsimp only); first | exact .inl ⟨by omega, by omega⟩ | exact .inr ⟨by omega, by omega⟩)
theorem sf1 : SeqAt.shaped (.tuple [.str "face", .int (-1)]) = true := by decide +kernel
theorem sf2 : SeqAt.shaped (.tuple [.str "face", .int 6]) = true := by decide +kernel
theorem sf3 : SeqAt.shaped (.tuple [.str "face", .none]) = true := by decide +kernel
theorem sf4 : SeqAt.shaped (.tuple [.str "face", .bool true]) = true := by decide +kernel
theorem dirR_gcd {f : Int} {l : List Int} (h0 : 0 ≤ f) (h6 : f < 6) (h : dirR (.int f) l = .ok l) : l.length = 3 ∧ gi l (f / 2) = 0 ∧ Nat.gcd (gi l (a1 f)).natAbs (gi l (a2 f)).natAbs = 1 := by
  have hw : wholeD (.int f) 0 5 = true := by
    show (decide (0 ≤ f) && decide (f ≤ 5)) = true
    rw [decide_eq_true h0, decide_eq_true (show f ≤ 5 by omega)]
    rfl
  unfold dirR at h
  rw [if_pos hw] at h
  by_cases hl : l.length = 3
  · rw [if_pos hl] at h
    by_cases hz : gi l (intD (.int f) / 2) = 0
    · rw [if_pos hz] at h
      by_cases hb : gi l (a1 (intD (.int f))) = 0 ∧ gi l (a2 (intD (.int f))) = 0
      · rw [if_pos hb] at h
        cases h
      · rw [if_neg hb] at h
        by_cases hg : Nat.gcd (gi l (a1 (intD (.int f)))).natAbs (gi l (a2 (intD (.int f)))).natAbs = 1
        · exact ⟨hl, hz, hg⟩
        · rw [if_neg hg] at h
          cases h
    · rw [if_neg hz] at h
      cases h
  · rw [if_neg hl] at h
    cases h
theorem gi_map2 {l : List Int} {i : Int} (h0 : 0 ≤ i) (h : i < l.length) : gi (l.map fun x => 2 * x) i = 2 * gi l i := by
  unfold gi
  have h' : i.toNat < l.length := by omega
  rw [List.getD_eq_getElem?_getD, List.getD_eq_getElem?_getD, List.getElem?_map, List.getElem?_eq_getElem h']
  rfl
def badSt (f : Int) (d : List Int) (r : Int) : List (List Int) := [[gi d 0, gi d 1], d.set (f / 2).toNat (1 + r), [0, 0, 0], d.map fun x => 2 * x]
def wordsL : List PyData := [.str "kind", .str "axis", .str "both", .str "common"]
theorem sw0 : SeqAt.shaped (.tuple [.str "direction", .str "kind"]) = true := by decide +kernel
theorem sw1 : SeqAt.shaped (.tuple [.str "direction", .str "axis"]) = true := by decide +kernel
theorem sw2 : SeqAt.shaped (.tuple [.str "direction", .str "both"]) = true := by decide +kernel
theorem sw3 : SeqAt.shaped (.tuple [.str "direction", .str "common"]) = true := by decide +kernel
theorem sw_ok {k : Int} (k0 : 0 ≤ k) (k4 : k < 4) : SeqAt.shaped (.tuple [.str "direction", wordsL.getD k.toNat .none]) = true := by
  have : k = 0 ∨ k = 1 ∨ k = 2 ∨ k = 3 := by omega
  rcases this with rfl | rfl | rfl | rfl
  · exact sw0
  · exact sw1
  · exact sw2
  · exact sw3
theorem bad_st {f : Int} {d : List Int} {r k : Int} (h0 : 0 ≤ f) (h6 : f < 6) (h : dirR (.int f) d = .ok d) (hB : Bd 1000 d) (r0 : 0 ≤ r) (r3 : r < 3) (k0 : 0 ≤ k) (k4 : k < 4) : Bd 10000 ((badSt f d r).getD k.toNat []) ∧ dirR (.int f) ((badSt f d r).getD k.toNat []) = .no "BadDirection" "what" (wordsL.getD k.toNat .none) := by
  obtain ⟨hl, hz, hg⟩ := dirR_gcd h0 h6 h
  have hw : wholeD (.int f) 0 5 = true := by
    show (decide (0 ≤ f) && decide (f ≤ 5)) = true
    rw [decide_eq_true h0, decide_eq_true (show f ≤ 5 by omega)]
    rfl
  have b1 := a1_b h0 h6
  have b2 := a2_b h0 h6
  have e : intD (.int f) = f := rfl
  have : k = 0 ∨ k = 1 ∨ k = 2 ∨ k = 3 := by omega
  rcases this with rfl | rfl | rfl | rfl
  · refine ⟨fun x hx => ?_, ?_⟩
    · rcases List.mem_cons.mp hx with rfl | hx
      · have := hB.at (i := 0) (by decide) (by omega)
        omega
      · rw [List.mem_singleton.mp hx]
        have := hB.at (i := 1) (by decide) (by omega)
        omega
    · unfold dirR
      rw [if_pos hw]
      exact if_neg (by show ¬ (2 = 3); decide)
  · refine ⟨(hB.mono (by decide)).set (by omega), ?_⟩
    unfold dirR
    rw [if_pos hw, e]
    show (if (d.set (f / 2).toNat (1 + r)).length = 3 then (if gi (d.set (f / 2).toNat (1 + r)) (f / 2) = 0 then _ else _) else _) = _
    rw [if_pos (by rw [List.length_set]; exact hl), if_neg (by rw [gi_set (by omega) (by omega) (by omega), if_pos rfl]; omega)]
    rfl
  · refine ⟨fun x hx => ?_, ?_⟩
    · have : x = 0 := by
        rcases List.mem_cons.mp hx with h | hx
        · exact h
        · rcases List.mem_cons.mp hx with h | hx
          · exact h
          · exact List.mem_singleton.mp hx
      omega
    · have z : ∀ i : Int, gi [0, 0, 0] i = 0 := fun i => by
        unfold gi
        generalize i.toNat = n
        match n with
        | 0 => rfl
        | 1 => rfl
        | 2 => rfl
        | n + 3 => rfl
      unfold dirR
      rw [if_pos hw, e]
      show (if ([0, 0, 0] : List Int).length = 3 then (if gi [0, 0, 0] (f / 2) = 0 then (if gi [0, 0, 0] (a1 f) = 0 ∧ gi [0, 0, 0] (a2 f) = 0 then _ else _) else _) else _) = _
      rw [if_pos (show ([0, 0, 0] : List Int).length = 3 from rfl), if_pos (z _), if_pos ⟨z _, z _⟩]
      rfl
  · refine ⟨fun x hx => ?_, ?_⟩
    · have hx : x ∈ d.map fun x => 2 * x := hx
      obtain ⟨y, hy, rfl⟩ := List.mem_map.mp hx
      have := hB y hy
      omega
    · unfold dirR
      rw [if_pos hw, e]
      show (if (d.map fun x => 2 * x).length = 3 then (if gi (d.map fun x => 2 * x) (f / 2) = 0 then (if gi (d.map fun x => 2 * x) (a1 f) = 0 ∧ gi (d.map fun x => 2 * x) (a2 f) = 0 then _ else if Nat.gcd (gi (d.map fun x => 2 * x) (a1 f)).natAbs (gi (d.map fun x => 2 * x) (a2 f)).natAbs = 1 then _ else _) else _) else _) = _
      rw [if_pos (by rw [List.length_map]; exact hl), gi_map2 (by omega) (by omega), gi_map2 b1.1 (by omega), gi_map2 b2.1 (by omega), if_pos (by rw [hz]; rfl), if_neg (by
        intro z
        have z1 : gi d (a1 f) = 0 := by omega
        have z2 : gi d (a2 f) = 0 := by omega
        rw [z1, z2] at hg
        cases hg), if_neg (by
        rw [Int.natAbs_mul, Int.natAbs_mul, Nat.gcd_mul_left, hg]
        decide)]
      rfl
theorem okR_of {s : List Int} {p q : Int} {r : Str4} (h : DomX s p q) (hr : RowD s p q r) : OkR s r := by
  obtain ⟨f, d, lo, hi⟩ := r
  obtain ⟨f0, f6, d4, h1, h2, h3⟩ := hr
  dsimp only at f0 f6 d4 h1 h2 h3
  obtain ⟨pr, hd, e1, e2, _, _⟩ := h.all f d f0 f6 d4
  refine ⟨?_, pr⟩
  show ckR s (.int f) (.int lo) (.int hi) d = .ok (f, d, lo, hi)
  unfold ckR
  rw [hd]
  show (if wholeD (.int lo) (lstMin (rngL s f d)) (lstMax (rngL s f d) - 1) = true then (if wholeD (.int hi) (lo + 1) (lstMax (rngL s f d)) = true then _ else _) else _) = _
  rw [e1, e2]
  have w1 : wholeD (.int lo) (lstMin (toldM s f d)) (lstMax (toldM s f d) - 1) = true := by
    show (decide _ && decide _) = true
    rw [decide_eq_true h1, decide_eq_true (show lo ≤ lstMax (toldM s f d) - 1 by omega)]
    rfl
  have w2 : wholeD (.int hi) (lo + 1) (lstMax (toldM s f d)) = true := by
    show (decide _ && decide _) = true
    rw [decide_eq_true (show lo + 1 ≤ hi by omega), decide_eq_true h3]
    rfl
  rw [if_pos w1, if_pos w2]
  rfl
theorem not_whole {i lo hi : Int} (h : i < lo ∨ hi < i) : wholeD (.int i) lo hi = false := by
  show (decide (lo ≤ i) && decide (i ≤ hi)) = false
  rcases h with h | h
  · rw [decide_eq_false (show ¬ lo ≤ i by omega)]
    rfl
  · rw [decide_eq_false (show ¬ i ≤ hi by omega), Bool.and_false]
theorem four_cases {r : Int} (h0 : 0 ≤ r) (h : r < 4) : r = 0 ∨ r = 1 ∨ r = 2 ∨ r = 3 := by omega
theorem five_cases {r : Int} (h0 : 0 ≤ r) (h : r < 5) : r = 0 ∨ r = 1 ∨ r = 2 ∨ r = 3 ∨ r = 4 := by omega
def Rspo (K : PySem.W.Frag) (s : List Int) : VD → Prop := fun y => ∃ fd dd lo hi due, Spo s fd dd lo hi due ∧ y = .l2 (He.ga K "Strip") [("face", fd), ("direction", dd), ("low", lo), ("high", hi)] due
section
variable {P : Program} {w : World} {K : PySem.W.Frag} {mg : Str → Option Value} {base : Heap} (T : Tx K mg)
include T
theorem c_spoilt : Cal P w K mg base 5 "_law_spoilt" (spH P w K (ι := List Int × Int × Int × Str4) (fun i => [.d (li i.1), .d (rowD i.2.2.2)]) (fun i => DomX i.1 i.2.1 i.2.2.1 ∧ RowD i.1 i.2.1 i.2.2.1 i.2.2.2) (fun i => Rspo K i.1)) := by
  obtain ⟨fd, F⟩ := T.D_law_spoilt
  refine ⟨_, fd, _, fun_hand F sc_law_spoilt (fun _ => rfl) (by decide) (fun ⟨s', p, q, ⟨f, d, lo, hi⟩⟩ h cdv Ar outer s H E hC hr => ?_), T.g_law_spoilt, F.kp, F.bindsN (ps := ["_law_hand_here", "_law_sides", "_law_row"]) fun _ _ _ _ _ _ us hl => match us, hl with | [_, _, _], _ => rfl⟩
  obtain ⟨hD, hR⟩ := hC
  dsimp only at hD hR
  have ok := okR_of hD hR
  obtain ⟨f0, f6, d4, hl1, hl2, hl3⟩ := hR
  dsimp only at f0 f6 d4 hl1 hl2 hl3
  obtain ⟨h2, hdir, e1, e2, hlt, hbd⟩ := hD.all f d f0 f6 d4
  have hd3 := h2.hd
  generalize em : lstMin (toldM s' f d) = least at *
  generalize eM : lstMax (toldM s' f d) = greatest at *
  refine s_cons (s_unpack [3, 4, 5, 6] (ds := [.int f, ti d, .int lo, .int hi]) rfl (x_var 2) (show PGs _ _ (gNs [3, 4, 5, 6]) from (pgs_cons (pg_name (i := 3) sc_law_spoilt.nd rfl (Or.inl rfl)) (pgs_cons (pg_name (i := 4) sc_law_spoilt.nd rfl (Or.inl rfl)) (pgs_cons (pg_name (i := 5) sc_law_spoilt.nd rfl (Or.inl rfl)) (pgs_cons (pg_name (i := 6) sc_law_spoilt.nd rfl (Or.inl rfl)) pgs_nil))))) ?_)
  refine s_re [some .hd, some (.v (.d (li s'))), some (.v (.d (rowD (f, d, lo, hi)))), some (.v (.d (.int f))), some (.v (.d (ti d))), some (.v (.d (.int lo))), some (.v (.d (.int hi))), none, none, none, none, none, none, none, none, none, none, none, none, none, none] ?_
  refine s_cons (s_unpack [7, 8] rfl (x_eq (x_call (c_law_range T) hr (s', f, d) (xa_cons (x_var 1) (xa_cons (x_var 3) (xa_cons (x_var 4) xa_nil))) (by exact ⟨hD.pre.h3, hD.pre.hs, f0, f6, h2.hd, h2.hB.mono (by decide)⟩)) (r' := .d (.tuple [.int least, .int greatest])) (by show VD.d (.tuple [.int (lstMin (toldM s' f d)), .int (lstMax (toldM s' f d))]) = _; rw [em, eM])) (show PGs _ _ (gNs [7, 8]) from (pgs_cons (pg_name (i := 7) sc_law_spoilt.nd rfl (Or.inl rfl)) (pgs_cons (pg_name (i := 8) sc_law_spoilt.nd rfl (Or.inl rfl)) pgs_nil))) ?_)
  refine s_re [some .hd, some (.v (.d (li s'))), some (.v (.d (rowD (f, d, lo, hi)))), some (.v (.d (.int f))), some (.v (.d (ti d))), some (.v (.d (.int lo))), some (.v (.d (.int hi))), some (.v (.d (.int least))), some (.v (.d (.int greatest))), none, none, none, none, none, none, none, none, none, none, none, none] ?_
  refine s_cons (s_asgR (i := 9) sc_law_spoilt.nd (x_take 0 (c_take T) hr x_int (by decide)) (fun r hr0 => ?_))
  obtain ⟨k, ⟨k0, k4⟩, rfl⟩ := hr0
  refine s_re [some .hd, some (.v (.d (li s'))), some (.v (.d (rowD (f, d, lo, hi)))), some (.v (.d (.int f))), some (.v (.d (ti d))), some (.v (.d (.int lo))), some (.v (.d (.int hi))), some (.v (.d (.int least))), some (.v (.d (.int greatest))), some (.v (.d (.int k))), none, none, none, none, none, none, none, none, none, none, none] ?_
  refine s_cons (s_asgN 10 sc_law_spoilt.nd (n_list T.f_list false PyProof.Rows.boot_list (x_var 4)) (fun _ e => ?_))
  subst e
  refine s_cons (s_setIR 10 (R := fun y => ∃ r, (0 ≤ r ∧ r < 3) ∧ y = .int (1 + r)) (ds := d.map PyData.int) (m := (f / 2).toNat) (x_mono (x_addR (x_rI x_int) (x_take 0 (c_take T) hr x_int (by decide))) (fun y ⟨z, ⟨i, j, hi', hj, e3⟩, e4⟩ => ⟨.int z, ⟨j, hj, by rw [e3, hi']⟩, e4⟩)) (x_fdiv (x_var 3) x_int (by walk_at "div")) (by rw [List.length_map]; exact ixN_of (by omega) (by omega)) (fun y hy => ?_))
  obtain ⟨rr, ⟨rr0, rr3⟩, rfl⟩ := hy
  refine s_freeze 10 (ds := (d.set (f / 2).toNat (1 + rr)).map PyData.int) ?_ (by rw [List.map_set]; rfl)
  refine s_re [some .hd, some (.v (.d (li s'))), some (.v (.d (rowD (f, d, lo, hi)))), some (.v (.d (.int f))), some (.v (.d (ti d))), some (.v (.d (.int lo))), some (.v (.d (.int hi))), some (.v (.d (.int least))), some (.v (.d (.int greatest))), some (.v (.d (.int k))), some (.v (.d (li (d.set (f / 2).toNat (1 + rr))))), none, none, none, none, none, none, none, none, none, none] ?_
  obtain ⟨bB, bD⟩ := bad_st f0 f6 hdir h2.hB rr0 rr3 k0 k4
  have e5 := range_map d (fun x => PyData.int (2 * x))
  have e6 : ti (d.map fun x => 2 * x) = .tuple (d.map fun x => PyData.int (2 * x)) := by
    unfold ti
    rw [List.map_map]
    rfl
  refine s_cons (s_asg 11 (r := .d (ti ((badSt f d rr).getD k.toNat []))) sc_law_spoilt.nd (x_ix (x_lst (ds := (badSt f d rr).map ti) (xp_cons (x_tup (ds := [gi d 0, gi d 1].map PyData.int) (xp_cons (x_ix (z := .int (gi d 0)) (x_var 4) x_int (by exact ix_ti (by decide) (by omega))) (xp_cons (x_ix (z := .int (gi d 1)) (x_var 4) x_int (by exact ix_ti (by decide) (by omega))) xp_nil))) (xp_cons (x_tupL (ds := (d.set (f / 2).toNat (1 + rr)).map PyData.int) T.f_tuple PyProof.Rows.boot_tuple (x_var 10)) (xp_cons (x_tup (ds := [0, 0, 0].map PyData.int) (xp_cons x_int (xp_cons x_int (xp_cons x_int xp_nil)))) (xp_cons (x_eq (x_tupL T.f_tuple PyProof.Rows.boot_tuple (x_n (n_lcD 20 (fun i => .int (2 * d.getD i 0)) rfl sc_law_spoilt.nd wlk_ti (p_tup (x_var 4)) (blkOk_by (N := N_law_spoilt) (sc := defScope st_law_spoilt) (own := [("_law_step", 20)]) (by decide +kernel)) (fun _ _ _ _ _ => pg_name (i := 20) sc_law_spoilt.nd rfl (Or.inl rfl)) (fun i hi _ _ _ _ _ => (x_mul x_int (x_var 20) (by exact .inl ⟨by decide, by decide⟩))) (by omega)))) (r' := .d (ti (d.map fun x => 2 * x))) (by rw [e6, ← e5])) xp_nil)))) (by show 4 ≤ 1000; decide)) (x_var 9) (by exact ix_ll k0 (by exact k4))) ?_)
  refine s_re [some .hd, some (.v (.d (li s'))), some (.v (.d (rowD (f, d, lo, hi)))), some (.v (.d (.int f))), some (.v (.d (ti d))), some (.v (.d (.int lo))), some (.v (.d (.int hi))), some (.v (.d (.int least))), some (.v (.d (.int greatest))), some (.v (.d (.int k))), some (.v (.d (li (d.set (f / 2).toNat (1 + rr))))), some (.v (.d (ti ((badSt f d rr).getD k.toNat [])))), none, none, none, none, none, none, none, none, none] ?_
  refine s_cons (s_asgR (i := 12) sc_law_spoilt.nd (x_ixG (R := fun y => ∃ z, (wholeD z 0 5 = false ∧ SeqAt.shaped (.tuple [.str "face", z]) = true) ∧ y = .d z) (x_lst (ds := [.int (-1), .int 6, .none, .bool true]) (xp_cons (x_neg x_int) (xp_cons x_int (xp_cons x_non (xp_cons x_bl xp_nil))))) (x_take 0 (c_take T) hr x_int (by decide)) (fun x y hx ⟨r, ⟨r0, r1⟩, e⟩ => by
    rcases four_cases r0 r1 with rfl | rfl | rfl | rfl
    · exact ⟨_, 0, .int (-1), hx, e, rfl, _, ⟨by rfl, sf1⟩, rfl⟩
    · exact ⟨_, 1, .int 6, hx, e, rfl, _, ⟨by rfl, sf2⟩, rfl⟩
    · exact ⟨_, 2, .none, hx, e, rfl, _, ⟨by rfl, sf3⟩, rfl⟩
    · exact ⟨_, 3, .bool true, hx, e, rfl, _, ⟨by rfl, sf4⟩, rfl⟩)) (fun r hr0 => ?_))
  obtain ⟨bf, ⟨hbf, hsf⟩, rfl⟩ := hr0
  refine s_re [some .hd, some (.v (.d (li s'))), some (.v (.d (rowD (f, d, lo, hi)))), some (.v (.d (.int f))), some (.v (.d (ti d))), some (.v (.d (.int lo))), some (.v (.d (.int hi))), some (.v (.d (.int least))), some (.v (.d (.int greatest))), some (.v (.d (.int k))), some (.v (.d (li (d.set (f / 2).toNat (1 + rr))))), some (.v (.d (ti ((badSt f d rr).getD k.toNat [])))), some (.v (.d (bf))), none, none, none, none, none, none, none, none] ?_
  refine s_cons (s_asgR (i := 13) sc_law_spoilt.nd (x_ixG (R := fun y => ∃ z, wholeD z least (greatest - 1) = false ∧ y = .d z) (x_lstR (R := fun l => ∃ z, z < least ∧ l = [.int z, .int greatest, .none, .tuple [.int lo], .int (greatest + 10 ^ Int.toNat 20)]) (xp_consR (x_subR (x_rI (x_sub (x_var 7) x_int)) (x_take 0 (c_take T) hr x_int (by decide))) (xp_cons (x_var 8) (xp_cons x_non (xp_cons (x_tup (xp_cons (x_var 5) xp_nil)) (xp_cons (x_add (x_var 8) (x_pow x_int x_int (by decide))) xp_nil)))) (fun r rs h1 e5 => by
      obtain ⟨z, ⟨i, j, hi', hj, e3⟩, e4⟩ := h1
      exact ⟨_, e4, z, by omega, by rw [e5]⟩)) (fun ds ⟨z, _, e⟩ => by rw [e]; show 5 ≤ 1000; decide)) (x_take 0 (c_take T) hr x_int (by decide)) (fun x y ⟨ds, ⟨z, hz, e8⟩, hx⟩ ⟨r, ⟨r0, r1⟩, e⟩ => by
    subst e8
    have pw : (0 : Int) < 10 ^ Int.toNat 20 := by decide
    rcases five_cases r0 r1 with rfl | rfl | rfl | rfl | rfl
    · exact ⟨_, 0, .int z, hx, e, rfl, _, not_whole (.inl hz), rfl⟩
    · exact ⟨_, 1, .int greatest, hx, e, rfl, _, not_whole (.inr (by omega)), rfl⟩
    · exact ⟨_, 2, .none, hx, e, rfl, _, by rfl, rfl⟩
    · exact ⟨_, 3, .tuple [.int lo], hx, e, rfl, _, by rfl, rfl⟩
    · exact ⟨_, 4, .int (greatest + 10 ^ Int.toNat 20), hx, e, rfl, _, not_whole (.inr (by omega)), rfl⟩)) (fun r hr0 => ?_))
  obtain ⟨bl, hbl, rfl⟩ := hr0
  refine s_re [some .hd, some (.v (.d (li s'))), some (.v (.d (rowD (f, d, lo, hi)))), some (.v (.d (.int f))), some (.v (.d (ti d))), some (.v (.d (.int lo))), some (.v (.d (.int hi))), some (.v (.d (.int least))), some (.v (.d (.int greatest))), some (.v (.d (.int k))), some (.v (.d (li (d.set (f / 2).toNat (1 + rr))))), some (.v (.d (ti ((badSt f d rr).getD k.toNat [])))), some (.v (.d (bf))), some (.v (.d (bl))), none, none, none, none, none, none, none] ?_
  refine s_cons (s_asgR (i := 14) sc_law_spoilt.nd (x_ixG (R := fun y => ∃ z, wholeD z (lo + 1) greatest = false ∧ y = .d z) (x_lstR (R := fun l => ∃ z, greatest < z ∧ l = [.int lo, .int z, .none, .bool false, .int (lo - 1)]) (xp_consR (x_var 5) (xp_consR (Rz := fun l => ∃ z, greatest < z ∧ l = [.int z, .none, .bool false, .int (lo - 1)]) (x_addR (x_rI (x_add (x_var 8) x_int)) (x_take 0 (c_take T) hr x_int (by decide))) (xp_cons x_non (xp_cons x_bl (xp_cons (x_sub (x_var 5) x_int) xp_nil))) (fun r rs h1 e5 => by
      obtain ⟨z, ⟨i, j, hi', hj, e3⟩, e4⟩ := h1
      exact ⟨_, e4, z, by omega, by rw [e5]⟩)) (fun r rs e ⟨z, hz, e9⟩ => ⟨_, e, z, hz, by rw [e9]⟩)) (fun ds ⟨z, _, e⟩ => by rw [e]; show 5 ≤ 1000; decide)) (x_take 0 (c_take T) hr x_int (by decide)) (fun x y ⟨ds, ⟨z, hz, e8⟩, hx⟩ ⟨r, ⟨r0, r1⟩, e⟩ => by
    subst e8
    rcases five_cases r0 r1 with rfl | rfl | rfl | rfl | rfl
    · exact ⟨_, 0, .int lo, hx, e, rfl, _, not_whole (.inl (by omega)), rfl⟩
    · exact ⟨_, 1, .int z, hx, e, rfl, _, not_whole (.inr hz), rfl⟩
    · exact ⟨_, 2, .none, hx, e, rfl, _, by rfl, rfl⟩
    · exact ⟨_, 3, .bool false, hx, e, rfl, _, by rfl, rfl⟩
    · exact ⟨_, 4, .int (lo - 1), hx, e, rfl, _, not_whole (.inl (by omega)), rfl⟩)) (fun r hr0 => ?_))
  obtain ⟨bh, hbh, rfl⟩ := hr0
  refine s_re [some .hd, some (.v (.d (li s'))), some (.v (.d (rowD (f, d, lo, hi)))), some (.v (.d (.int f))), some (.v (.d (ti d))), some (.v (.d (.int lo))), some (.v (.d (.int hi))), some (.v (.d (.int least))), some (.v (.d (.int greatest))), some (.v (.d (.int k))), some (.v (.d (li (d.set (f / 2).toNat (1 + rr))))), some (.v (.d (ti ((badSt f d rr).getD k.toNat [])))), some (.v (.d (bf))), some (.v (.d (bl))), some (.v (.d (bh))), none, none, none, none, none, none] ?_
  refine s_cons (s_asgR (i := 15) sc_law_spoilt.nd (x_addR (x_rI x_int) (x_take 0 (c_take T) hr x_int (by decide))) (fun r hr0 => ?_))
  obtain ⟨bits, ⟨i, j, rfl, ⟨j0, j1⟩, rfl⟩, rfl⟩ := hr0
  generalize eb : 1 + j = bits
  refine s_re [some .hd, some (.v (.d (li s'))), some (.v (.d (rowD (f, d, lo, hi)))), some (.v (.d (.int f))), some (.v (.d (ti d))), some (.v (.d (.int lo))), some (.v (.d (.int hi))), some (.v (.d (.int least))), some (.v (.d (.int greatest))), some (.v (.d (.int k))), some (.v (.d (li (d.set (f / 2).toNat (1 + rr))))), some (.v (.d (ti ((badSt f d rr).getD k.toNat [])))), some (.v (.d (bf))), some (.v (.d (bl))), some (.v (.d (bh))), some (.v (.d (.int bits))), none, none, none, none, none] ?_
  let bs : PyData := ti ((badSt f d rr).getD k.toNat [])
  let word : PyData := wordsL.getD k.toNat .none
  let gL : List PyData := [.int f, ti d, .int lo, .int hi]
  let bL : List PyData := [bf, bs, bl, bh]
  let dL : List PyData := [.tuple [.str "face", bf], .tuple [.str "direction", word], .tuple [.str "strip", .str "low"], .tuple [.str "strip", .str "high"]]
  have hspo := spo_of (bf := bf) (bs := bs) (bl := bl) (bh := bh) (word := word) (bits := bits) ok.ck (h2.hB.mono (by decide)) ⟨hbf, ⟨_, rfl, bB, bD⟩, by rw [e1, e2]; exact hbl, by rw [e2]; exact hbh, hsf, sw_ok k0 k4⟩ (by omega) (by omega)
  refine s_cons (s_asgN 16 sc_law_spoilt.nd (n_lst (xp_cons (x_var 3) (xp_cons (x_var 4) (xp_cons (x_var 5) (xp_cons (x_var 6) xp_nil))))) (fun _ e => ?_))
  subst e
  refine s_re [some .hd, some (.v (.d (li s'))), some (.v (.d (rowD (f, d, lo, hi)))), some (.v (.d (.int f))), some (.v (.d (ti d))), some (.v (.d (.int lo))), some (.v (.d (.int hi))), some (.v (.d (.int least))), some (.v (.d (.int greatest))), some (.v (.d (.int k))), some (.v (.d (li (d.set (f / 2).toNat (1 + rr))))), some (.v (.d (ti ((badSt f d rr).getD k.toNat [])))), some (.v (.d (bf))), some (.v (.d (bl))), some (.v (.d (bh))), some (.v (.d (.int bits))), some (.mu gL), none, none, none, none] ?_
  refine s_cons (s_asg 17 (r := .d (.list dL)) sc_law_spoilt.nd (x_lst (xp_cons (x_tup (xp_cons x_str (xp_cons (x_var 12) xp_nil))) (xp_cons (x_tup (xp_cons x_str (xp_cons (x_ix (z := word) (x_tup (ds := wordsL) (xp_cons x_str (xp_cons x_str (xp_cons x_str (xp_cons x_str xp_nil)))) (by show 4 ≤ 1000; decide)) (x_var 9) (by
    rcases four_cases k0 k4 with rfl | rfl | rfl | rfl <;> rfl)) xp_nil))) (xp_cons (x_tup (xp_cons x_str (xp_cons x_str xp_nil))) (xp_cons (x_tup (xp_cons x_str (xp_cons x_str xp_nil))) xp_nil)))) (by show 4 ≤ 1000; decide)) ?_)
  refine s_cons (s_asg 18 sc_law_spoilt.nd x_non ?_)
  refine s_re [some .hd, some (.v (.d (li s'))), some (.v (.d (rowD (f, d, lo, hi)))), some (.v (.d (.int f))), some (.v (.d (ti d))), some (.v (.d (.int lo))), some (.v (.d (.int hi))), some (.v (.d (.int least))), some (.v (.d (.int greatest))), some (.v (.d (.int k))), some (.v (.d (li (d.set (f / 2).toNat (1 + rr))))), some (.v (.d (ti ((badSt f d rr).getD k.toNat [])))), some (.v (.d (bf))), some (.v (.d (bl))), some (.v (.d (bh))), some (.v (.d (.int bits))), some (.mu gL), some (.v (.d (.list dL))), some (.v (.d .none)), none, none] ?_
  let Gp : List PyData → PyData → Option Slt → Gm := fun tl du o19 => [some .hd, some (.v (.d (li s'))), some (.v (.d (rowD (f, d, lo, hi)))), some (.v (.d (.int f))), some (.v (.d (ti d))), some (.v (.d (.int lo))), some (.v (.d (.int hi))), some (.v (.d (.int least))), some (.v (.d (.int greatest))), some (.v (.d (.int k))), some (.v (.d (li (d.set (f / 2).toNat (1 + rr))))), some (.v (.d (ti ((badSt f d rr).getD k.toNat [])))), some (.v (.d (bf))), some (.v (.d (bl))), some (.v (.d (bh))), some (.v (.d (.int bits))), some (.mu tl), some (.v (.d (.list dL))), some (.v (.d du)), o19, none]
  refine s_cons (s_for 19 (fun i G => ∃ o19, G = Gp (toldN gL bL bits i) (dueN dL bits i) o19) PassesOwn.never rfl (wlk_rng1 (by omega)) sc_law_spoilt.nd (p_rng1 T.f_range x_int) ?_ ?_ ?_ ?_)
  · intro i G hG
    obtain ⟨o19, rfl⟩ := hG
    exact Nat.le_of_ble_eq_true rfl
  · exact ⟨none, rfl⟩
  · intro i G hi hG
    obtain ⟨o19, rfl⟩ := hG
    have hi : i < 4 := hi
    have tl4 : (toldN gL bL bits i).length = 4 := toldN_len gL bL bits i
    have eT : toldN gL bL bits (i + 1) = if bitN bits i = true then (toldN gL bL bits i).set i (bL.getD i .none) else toldN gL bL bits i := rfl
    have eD : dueN dL bits (i + 1) = if bitN bits i = true then (if isNd (dueN dL bits i) = true then dL.getD i .none else dueN dL bits i) else dueN dL bits i := rfl
    have ib : ixD (.list bL) (0 + (i : Int)) = some (bL.getD i .none) := by
      have : i = 0 ∨ i = 1 ∨ i = 2 ∨ i = 3 := by omega
      rcases this with rfl | rfl | rfl | rfl <;> rfl
    have idl : ixD (.list dL) (0 + (i : Int)) = some (dL.getD i .none) := by
      have : i = 0 ∨ i = 1 ∨ i = 2 ∨ i = 3 := by omega
      rcases this with rfl | rfl | rfl | rfl <;> rfl
    generalize toldN gL bL bits i = tl at *
    generalize dueN dL bits i = du at *
    refine s_re (Gp tl du (some (.v (.d (.int (0 + (i : Int))))))) ?_
    refine s_one (s_if (Γ := Gp tl du (some (.v (.d (.int (0 + (i : Int))))))) (t_eqI (x_mod (x_int1 T.f_int PyProof.Rows.boot_int (x_shr (x_var 15) (x_var 19) (by omega))) x_int (by decide)) x_int) ?_ ?_)
    · intro h
      have h : true = bitN bits i := h
      rw [if_pos h.symm] at eT eD
      refine s_cons (s_setI 16 (ds := tl) (m := i) (x_ix (z := bL.getD i .none) (x_lst (ds := bL) (xp_cons (x_var 12) (xp_cons (x_var 11) (xp_cons (x_var 13) (xp_cons (x_var 14) xp_nil)))) (by show 4 ≤ 1000; decide)) (x_var 19) (by exact ib)) (x_var 19) (by rw [tl4]; unfold ixN; rw [if_pos (by omega), if_pos (by omega)]; exact congrArg some (by omega)) ?_)
      refine s_re (Gp (tl.set i (bL.getD i .none)) du (some (.v (.d (.int (0 + (i : Int))))))) ?_
      by_cases hn : isNd du = true
      · have en : isN (.d du) = true := by cases du <;> first | rfl | cases hn
        rw [if_pos hn] at eD
        refine s_one (s_asg 18 sc_law_spoilt.nd (x_ifT (tdt_mono (t_isN (x_var 18)) (fun k h => by rw [h]; exact en)) (x_ix (z := dL.getD i .none) (x_var 17) (x_var 19) (by exact idl))) ?_)
        exact ⟨_, by rw [eT, eD]; rfl⟩
      · have en : isN (.d du) = false := by cases du <;> first | rfl | exact absurd rfl hn
        rw [if_neg hn] at eD
        refine s_one (s_asg 18 sc_law_spoilt.nd (x_ifF (tdt_mono (t_isN (x_var 18)) (fun k h => by rw [h]; exact en)) (x_var 18)) ?_)
        exact ⟨_, by rw [eT, eD]; rfl⟩
    · intro h
      have h : false = bitN bits i := h
      rw [if_neg (by rw [← h]; decide)] at eT eD
      exact s_nil ⟨_, by rw [eT, eD]⟩
  · intro G hG
    obtain ⟨o19, rfl⟩ := hG
    have tl4 : (toldN gL bL bits 4).length = 4 := toldN_len gL bL bits 4
    have it : ∀ k : Nat, k < 4 → ixD (.list (toldN gL bL bits 4)) (k : Int) = some ((toldN gL bL bits 4).getD k .none) := fun k hk => by
      have q : (toldN gL bL bits 4)[k]? = some ((toldN gL bL bits 4).getD k .none) := by
        rw [List.getD_eq_getElem?_getD, List.getElem?_eq_getElem (by omega)]
        rfl
      exact atI_nat q
    have hspo := hspo
    rw [show Int.toNat 4 = 4 from rfl]
    change PSs _ _ (tO _ _ (Gp (toldN gL bL bits 4) (dueN dL bits 4) o19) _)
    change Spo s' ((toldN gL bL bits 4).getD 0 .none) ((toldN gL bL bits 4).getD 1 .none) ((toldN gL bL bits 4).getD 2 .none) ((toldN gL bL bits 4).getD 3 .none) (dueN dL bits 4) at hspo
    generalize toldN gL bL bits 4 = tl at *
    generalize dueN dL bits 4 = du at *
    refine s_freeze 16 (ds := tl) ?_
    refine s_one (s_ret (x_l2 (x_make (k_Strip T) hr (ds := [tl.getD 0 .none, tl.getD 1 .none, tl.getD 2 .none, tl.getD 3 .none]) (xp_cons (x_ix (x_var 16) x_int (by exact it 0 (by decide))) (xp_cons (x_ix (x_var 16) x_int (by exact it 1 (by decide))) (xp_cons (x_ix (x_var 16) x_int (by exact it 2 (by decide))) (xp_cons (x_ix (x_var 16) x_int (by exact it 3 (by decide))) xp_nil))))) (x_var 18)) ?_)
    exact ⟨_, _, _, _, _, hspo, rfl⟩
end
end K27
set_option maxHeartbeats 4000000
/-! try with several 'except .. as'. -/
namespace K27
open PySem PySem.Spec PyProof.Rows L2
local macro_rules | `(tactic| walk_at "c") => `(tactic| first | trivial | assumption | (dsimp only; (repeat' apply And.intro) <;> first | assumption | trivial | omega) | ((repeat' apply And.intro) <;> first | assumption | trivial | omega))
local macro_rules | `(tactic| walk_at "ix") => `(tactic| (try dsimp only); first | exact ix_ti (by omega) (by omega) | exact ix_li (by omega) (by omega) | exact ix_frames (by omega) (by omega) | rfl)
local macro_rules | `(tactic| walk_at "sx") => `(tactic| (try dsimp only); exact ixN_of (by omega) (by first | omega | (simp only [List.length_set, List.length_map, List.length_cons, List.length_nil]; omega)))
local macro_rules | `(tactic| walk_at "div") => `(tactic| (try dsimp only); first | exact ⟨by omega, by omega⟩ | omega)
local macro_rules | `(tactic| walk_at "mul") => `(tactic| (try dsimp only); first | exact .inl ⟨by omega, by omega⟩ | exact .inr ⟨by omega, by omega⟩)
/-- what the clauses wish of an exception of the body, one after the other; behind the last none may fly on -/
def wAsM (K : PySem.W.Frag) (i : Nat) (D : Ends) : List (Value × (Addr → Value → Option Addr → TS)) → WX
  | [] => fun _ _ _ _ => False
  | (c, ts) :: r => fun cls d σ H => ∃ b, PySem.W.exmOne K cls c = some b ∧ (b = true → ∀ a, H a = none → ts a cls d { nx := fun σ' H' => D.nx (σ'.set i none) H', rt := D.rt, bk := fun σ' H' => D.bk (σ'.set i none) H', ct := fun σ' H' => D.ct (σ'.set i none) H' } (σ.set i (some (.ref a))) H) ∧ (b = false → wAsM K i D r cls d σ H)
inductive HdsA (X : Cx) (n : Str) : List ExceptHandler → List (Value × (Addr → Value → Option Addr → TS)) → Prop
  | stop {hds : List ExceptHandler} : HdsA X n hds []
  | cons {x : Str} {c : Value} {ts : Addr → Value → Option Addr → TS} {b₀ : Stmt} {suite : List Stmt} {np pos' : Pos} {hds : List ExceptHandler} {l : List (Value × (Addr → Value → Option Addr → TS))} (hc : Names X x c)
      (hsu : ∀ (a : Addr) (oe : Obj) (cls : Value) (d : Option Addr) (pn : List (Addr × Obj)), Zc cls d oe → (∃ vs, oe.data = .fields vs) → PSs (X.suite a ((a, oe) :: pn)) (b₀ :: suite) (ts a cls d)) (r : HdsA X n hds l) :
      HdsA X n (.ExceptHandler (some (.Name x np)) (some n) (b₀ :: suite) pos' :: hds) ((c, ts) :: l)
section
variable {X : Cx} {n : Str} {i : Nat} {body : List Stmt} {h₀ : ExceptHandler} {hds : List ExceptHandler} {l : List (Value × (Addr → Value → Option Addr → TS))} {pos : Pos} {tb : WX → TS}
theorem ps_try_asM (hs : X.stack = X.env :: X.outer) (hf : X.env.frame = some X.env.locals) (hN : X.N.Nodup) (hi : X.N[i]? = some n) (hln : X.env.kindOf n = some .local)
    (hb : ∀ (W : WX) (pn : List (Addr × Obj)) (xe : Value → Shared → Prop), Takes (X.tr pn xe) W → PassesOwn (model X.prog X.w) X.A X.env xe → PSs (X.tr pn xe) body (tb W))
    (hh : HdsA X n (h₀ :: hds) l) : PS X (.Try body (h₀ :: hds) [] [] pos) (fun D σ H => tb (wAsM X.K i D l) D σ H) := by
  refine ⟨fun pins s σ H D I h => ?_⟩
  have ok := I.ok
  have hfr : X.A.frames = some (X.env :: X.outer) := by rw [ok.frames, hs]
  have hloc : Loc X.env.scope n := .inl hln
  refine wpAny_Try_except ?_
  refine wpAny_mono ((hb (wAsM X.K i D l) (X.pn ++ pins) (fun e s₁ => wpAny (model X.prog X.w) X.A (noteFrame e X.env) (fun _ s₂ => wpAny (model X.prog X.w) X.A (setFlight e none) (fun _ s₃ =>
    wpAny (model X.prog X.w) X.A (handleBy e X.env (h₀ :: hds)) (SP X pins D) X.xe s₃) X.xe s₂) X.xe s₁) (fun u s' xx => ?_) PassesOwn.looking).run [] s σ H D (I.toTry _) h) (fun f s1 hsp => ?_) (fun e s1 he => he)
  · obtain ⟨a, B, sI, pins', σ', H', cls, d, rfl, J', nb, up, sky, na, os, ag, w⟩ := xx
    have J : Inv X pins σ' H' sI := J'.ofTry ok
    have sky' : Sky B (X.env :: X.outer) a (Zc cls d) X.env.locals s'.heap := by rw [← hs]; exact sky
    show wpAny (model X.prog X.w) X.A (noteFrame (.ref a) X.env) _ _ _
    refine Sky.land Zc.steady hfr hf sky' fun h3 fl3 up3 => ?_
    have J3 : Inv X pins σ' H' { s' with heap := h3 } := J.landed nb fl3.1 (up.trans up3) os ag
    obtain ⟨oe3, vs3, he3, hz3, hd3⟩ := fl3.there
    have notFr : ∀ {h : Heap} {o : Obj} {vs : Array Value}, h.FunFrames B (X.env :: X.outer) → h.get? a = some o → o.data = .fields vs → a ∉ frs (X.env :: X.outer) := fun {h o vs} ff e dd hm => by
      obtain ⟨_, o', e', hnf⟩ := ff.mem hm
      rw [e] at e'
      cases e'
      exact hnf _ dd
    have nfr := notFr fl3.2.2.1 he3 hd3
    have nL : a ≠ X.env.locals := fun z => nfr (List.mem_filterMap.mpr ⟨X.env, List.mem_cons_self, by rw [hf, z]⟩)
    have nF : a ∉ X.fs := fun hm => by
      obtain ⟨e, he, q⟩ := List.mem_filterMap.mp hm
      exact nfr (List.mem_filterMap.mpr ⟨e, List.mem_cons_of_mem _ he, q⟩)
    have S3 := J3.suite he3 hd3 na nL nF
    have go : ∀ {hds' : List ExceptHandler} {l' : List (Value × (Addr → Value → Option Addr → TS))}, HdsA X n hds' l' → wAsM X.K i D l' cls d σ' H' →
        wpAny (model X.prog X.w) X.A (handleBy (.ref a) X.env hds') (SP X pins D) X.xe { s' with heap := h3 } := by
      intro hds' l' hk
      induction hk with
      | stop => intro w; exact w.elim
      | @cons x c ts b₀ suite np pos' hds2 l2 hc hsu r ih =>
        intro w
        obtain ⟨b, hb1, hyes, hno⟩ := w
        refine wpAny_handleBy_cons (codeAny_handlers_test ?_) (by intro q; cases q)
        have LT : PySem.W.Looks (model X.prog X.w) h3 (typeOf (.ref a)) cls := fun A Q E s k q => wpAny_typeOf_ref (k _ _ he3) (by rw [hz3.1]; exact q)
        have LM := PySem.W.exm_one (M := model X.prog X.w) (J3.kIn) LT hb1
        have test : ∀ {Q : Value → Shared → Prop} {E : Value → Shared → Prop}, Q c { s' with heap := h3 } → wpAny (model X.prog X.w) (X.A.mark (some (.ref a))) (eval (.Name x np) X.env) Q E { s' with heap := h3 } := fun {Q E} q => by
          obtain ⟨hg, hdbg, hm | ⟨hm, hv, hnn⟩⟩ := hc
          · exact ld_glob (X := X.suite a ((a, oe3) :: (X.pn ++ pins))) S3 hg hm q hdbg
          · exact ld_blt (X := X.suite a ((a, oe3) :: (X.pn ++ pins))) S3 hg hm hv q hnn hdbg
        refine test (LM.here ?_)
        cases b with
        | true =>
          refine codeAny_handlers_suite_as ?_
          refine HandSPX.lands_againZ fl3 fun h4 fl4 up4 => ?_
          have J4 : Inv X pins σ' H' { s' with heap := h4 } := J.landed nb fl4.1 ((up.trans up3).trans up4) os ag
          obtain ⟨oe4, vs4, he4, hz4, hd4⟩ := fl4.there
          have S4 := J4.suite he4 hd4 na nL nF
          refine store_ok (X := X.suite a ((a, oe4) :: (X.pn ++ pins))) (v := .ref a) S4 hN hi hloc rfl (fun s5 S5 => ?_) (.inr hln)
          refine wpAny_mono ((hsu a oe4 cls d (X.pn ++ pins) hz4 ⟨_, hd4⟩).run [] s5 _ H' _ S5 (hyes rfl a na)) (fun f s6 hsp => ?_) (fun _ _ z => False.elim z)
          have end_ : ∀ {σ6 : L2.St} {H6 : Hp} {Q : Shared → Prop}, Inv (X.suite a ((a, oe4) :: (X.pn ++ pins))) [] σ6 H6 s6 → (∀ s7, Inv X pins (σ6.set i none) H6 s7 → Q s7) →
              wpAny (model X.prog X.w) X.A (do bindName X.env n .none; unbindBehindTheSuite X.env n pos') (fun _ s7 => Q s7) X.xe s6 := fun {σ6 H6 Q} S6 hq => gone_ok (S6.unsuite ok) hN hi hln hq
          cases f with
          | next =>
            obtain ⟨σ6, H6, S6, q6⟩ := hsp
            exact end_ S6 fun s7 J7 => ⟨_, _, J7, q6⟩
          | brk =>
            obtain ⟨σ6, H6, S6, q6⟩ := hsp
            exact end_ S6 fun s7 J7 => ⟨_, _, J7, q6⟩
          | cont =>
            obtain ⟨σ6, H6, S6, q6⟩ := hsp
            exact end_ S6 fun s7 J7 => ⟨_, _, J7, q6⟩
          | ret u =>
            obtain ⟨v6, σ6, H6, S6, r6, q6⟩ := hsp
            exact end_ S6 fun s7 J7 => ⟨_, _, _, J7, r6, q6⟩
        | false =>
          show wpAny _ X.A (handleBy (.ref a) X.env hds2) _ _ _
          exact ih (hno rfl)
    exact go hh w
  · cases f with
    | next =>
      obtain ⟨σ', H', J', q⟩ := hsp
      exact wpAny_execs_nil ⟨σ', H', J'.ofTry ok, q⟩
    | brk =>
      obtain ⟨σ', H', J', q⟩ := hsp
      exact ⟨σ', H', J'.ofTry ok, q⟩
    | cont =>
      obtain ⟨σ', H', J', q⟩ := hsp
      exact ⟨σ', H', J'.ofTry ok, q⟩
    | ret u =>
      obtain ⟨v, σ', H', J', r, q⟩ := hsp
      exact ⟨v, σ', H', J'.ofTry ok, r, q⟩
theorem takes_len {W : WX} (tk : Takes X W) : Takes X (fun c d σ H => σ.length = X.N.length → W c d σ H) := fun u s' ⟨a, B, sI, pins, σ, H, cls, d, e, I, nb, up, sky, na, os, ag, w⟩ =>
  tk u s' ⟨a, B, sI, pins, σ, H, cls, d, e, I, nb, up, sky, na, os, ag, w I.len⟩
end
/-- a suite that tells (word, raised.f) -/
def tsW (word f : Str) (C : Addr) : Addr → Value → Option Addr → TS := fun a cls d D σ H => ∃ (dd : Addr) (v : V), cls = .ref C ∧ d = some dd ∧ σ[4]? = some (some (.ref a)) ∧ H dd = some (.xd [(f, v)]) ∧ ∀ p, H p = none → D.nx (σ.set 3 (some (.ref p))) (upd H p (.tup [.str word, v]))
end K27
set_option maxHeartbeats 4000000
/-! What is refused. -/
namespace K27
open PySem PySem.Spec PyProof.Rows L2
local macro_rules | `(tactic| walk_at "c") => `(tactic| first | trivial | assumption | (dsimp only; (repeat' apply And.intro) <;> first | assumption | trivial | omega) | ((repeat' apply And.intro) <;> first | assumption | trivial | omega))
local macro_rules | `(tactic| walk_at "ix") => `(tactic| (try dsimp only); first | exact ix_ti (by omega) (by omega) | exact ix_li (by omega) (by omega) | exact ix_frames (by omega) (by omega) | rfl)
local macro_rules | `(tactic| walk_at "sx") => `(tactic| (try dsimp only); exact ixN_of (by omega) (by first | omega | (simp only [List.length_set, List.length_map, List.length_cons, List.length_nil]; omega)))
local macro_rules | `(tactic| walk_at "div") => `(tactic| (try dsimp only); first | exact ⟨by omega, by omega⟩ | omega)
local macro_rules | `(tactic| walk_at "mul") => `(tactic| (try dsimp only); first | exact .inl ⟨by omega, by omega⟩ | exact .inr ⟨by omega, by omega⟩)
section
variable {X : Cx} {M : Option Addr} {E : XK} {Γ : Gm} {P : O → Prop} {body : List Stmt} {h₀ : ExceptHandler} {hs : List ExceptHandler} {pos : Pos}
/-- a try whose body lets nothing out -/
theorem s_try0 (h : PSs X.nox body (tO (zx X.nox M) E Γ P)) : PS X (.Try body (h₀ :: hs) [] [] pos) (tO (zx X M) E Γ P) := ps_try_thru0 h
theorem su_word {a C : Addr} {oe : Obj} {cls : Value} {d : Option Addr} {pn : List (Addr × Obj)} {word f y r : Str} {j x1 : Nat} {p p1 p2 p3 p4 p5 : Pos} (T : XfC X.K C) (hno : PySem.W.findIn X.K (.ref C) f = some none) (hz : Zc cls d oe) (hf : ∃ vs, oe.data = .fields vs)
    (hN : X.N.Nodup) (h3 : X.N[3]? = some y) (h4 : X.N[4]? = some r) (hy : Loc X.env.scope y) (hyf : X.fn y = true ∨ X.env.scope.names.lookup y = some .local) (hv : Vis X.env.scope r) (hd : (r == ("__debug__" : Str)) = false) (hcd : (r == ("__classdict__" : Str)) = false)
    (hs : swapsWith (.Tuple [.Constant (.str word) j p1, .Attribute (.Name r p2) f p3] x1 p4) (some (.Name y p)) p5.line X.env = pure false) (hb : attributeBase (.Name r p2) f X.env (eval (.Name r p2) X.env) = eval (.Name r p2) X.env)
    (e1 : starEach [.Attribute (.Name r p2) f p3] X.env = (false, eval (.Attribute (.Name r p2) f p3) X.env) :: starEach [] X.env) (e2 : starEach [.Constant (.str word) j p1, .Attribute (.Name r p2) f p3] X.env = (false, eval (.Constant (.str word) j p1) X.env) :: starEach [.Attribute (.Name r p2) f p3] X.env) :
    PSs (X.suite a ((a, oe) :: pn)) [.Assign [.Name y p] (.Tuple [.Constant (.str word) j p1, .Attribute (.Name r p2) f p3] x1 p4) p5] (tsW word f C a cls d) :=
  pss_imp (pss_one (ps_set (X := X.suite a ((a, oe) :: pn)) hN h3 hy (pe_tup (pa_cons pe_str (pa_cons (pe_xf T hno hz hf (pv (X := X.suite a ((a, oe) :: pn)) 4 h4 hv hd hcd) hb) pa_nil e1) e2)) hs hyf)) fun D σ H ⟨dd, v, h1, h2, h3, h4, q⟩ => by
    refine ⟨.ref a, h3, rfl, h1, dd, [(f, v)], v, h2, h4, ?_, (by show 2 ≤ sizeLine; decide), fun p hp => q p hp⟩
    simp [List.lookup]
end
def EW (k : Nat) (W : WX) : XK := fun cls d H => ∀ σ : L2.St, σ.length = k → W cls d σ H
section
variable {P : Program} {w : World} {K : PySem.W.Frag} {mg : Str → Option Value} {base : Heap} (T : Tx K mg)
include T
theorem c_refused_ok : Cal P w K mg base 10 "_law_refused" (spP P w K (ι := List Int × Int × Str4) (fun i => [bxV K i.1, stR K i.2.2, .d (.int i.2.1)]) (fun i => i.1.length = 3 ∧ OkR i.1 i.2.2 ∧ (i.2.1 = 0 ∨ i.2.1 = 1 ∨ i.2.1 = 3)) (fun _ => .d (.str "done"))) := by
  obtain ⟨fd, F⟩ := T.D_law_refused
  refine ⟨_, fd, _, fun_pure F sc_law_refused (fun _ => rfl) (fun ⟨s', way, r⟩ cdv Ar outer s H E hC hr => ?_), T.g_law_refused, F.kp, F.bindsN (ps := ["_law_box", "_law_strip", "_law_way"]) fun _ _ _ _ _ _ us hl => match us, hl with | [_, _, _], _ => rfl⟩
  obtain ⟨h3, o, hw⟩ := hC
  dsimp only at h3 o hw
  have cs : s'.length = 3 ∧ (wholeD (.int r.1) 0 5 = true → ti r.2.1 = seqD false (r.2.1.map PyData.int) ∧ Bd 10000 r.2.1) := ⟨h3, fun _ => ⟨rfl, o.pr.hB.mono (by decide)⟩⟩
  refine s_cons (s_asg 3 sc_law_refused.nd x_str ?_)
  refine s_cons (s_try0 ?_)
  refine s_one (s_if (t_eqI (x_var 2) x_int) (fun _ => ?_) (fun n0 => ?_))
  · exact s_one (s_expr (x_callO (c_check_strip T) hr (s', .int r.1, ti r.2.1, .int r.2.2.1, .int r.2.2.2, false, r.2.1) (r := stR K r) (xa_cons (x_var 0) (xa_cons (x_var 1) xa_nil)) (by exact cs) (by exact congrArg (rzO K (stR K)) o.ck)) (s_one (s_ret (x_var 3) (by rfl))))
  · refine s_one (s_if (t_eqI (x_var 2) x_int) (fun _ => ?_) (fun n1 => ?_))
    · exact s_one (s_expr (x_callO (c_strip_after T) hr (s', .int r.1, ti r.2.1, .int r.2.2.1, .int r.2.2.2, false, r.2.1) (r := aftV K s' r) (xa_cons (x_var 0) (xa_cons (x_var 1) xa_nil)) (by exact cs) (by exact congrArg (rzO K (aftV K s')) o.ck)) (s_one (s_ret (x_var 3) (by rfl))))
    · refine s_one (s_if (t_eqI (x_var 2) x_int) (fun n2 => ?_) (fun _ => ?_))
      · exfalso
        have n2 : way = 2 := of_decide_eq_true (show true = decide (way = 2) from n2).symm
        omega
      · exact s_one (s_expr (x_callO (c_strip_before T) hr (s', .int r.1, ti r.2.1, .int r.2.2.1, .int r.2.2.2, false, r.2.1) (r := befV K s' r) (xa_cons (x_var 0) (xa_cons (x_var 1) xa_nil)) (by exact cs) (by exact congrArg (rzO K (befV K s')) o.ck)) (s_one (s_ret (x_var 3) (by rfl))))
omit T in
/-- what stands behind a caught exception -/
theorem caught {B0 H0 B h : Hp} {v : V} {word : Str} {x : PyData} {Q : VK} (g : Gr none B0 H0 B h) (hx : Dp K B v x)
    (q : ∀ v B' H', Gr none B0 H0 B' H' → Dp K B' v (.tuple [.str word, x]) → Q v H') {p : Addr} (hp : h p = none) : Q (.ref p) (upd h p (.tup [.str word, v])) := by
  have g2 := Gr.new g.bh (o := .tup [.str word, v]) hp
  exact q _ _ _ (g.trans g2) (Dp.tup (.inl (.inl upd_same)) (.cons (Dp.str _) (.cons (dp_mono g2.bb _ _ hx) .nil)))
def hdsL (K : PySem.W.Frag) : List (Value × (Addr → Value → Option Addr → TS)) := [(.ref (He.ga K "BadFace"), tsW "face" "face" (He.ga K "BadFace")), (.ref (He.ga K "BadDirection"), tsW "direction" "what" (He.ga K "BadDirection")), (.ref (He.ga K "BadStrip"), tsW "strip" "what" (He.ga K "BadStrip"))]
/-- each of the three is caught by its own clause -/
theorem caught_ok {D : Ends} {Q : VK} {B0 H0 B h : Hp} {d : Addr} {v : V} {c f : Str} {x due : PyData} (g : Gr none B0 H0 B h) (hd : h d = some (.xd [(f, v)])) (hx : Dp K B v x) (du : DueOf c f x due)
    (hD : ∀ σ H, D.nx σ H = ∃ v, σ[3]? = some (some v) ∧ Q v H) (q : ∀ v B' H', Gr none B0 H0 B' H' → Dp K B' v due → Q v H') (σ : L2.St) (hσ : σ.length = 5) : wAsM K 4 D (hdsL K) (.ref (He.ga K c)) (some d) σ h := by
  have s4 : ∀ a : Addr, (σ.set 4 (some (.ref a)))[4]? = some (some (.ref a)) := fun a => List.getElem?_set_self (by omega)
  have s3 : ∀ a p : Addr, (((σ.set 4 (some (.ref a))).set 3 (some (.ref p))).set 4 none)[3]? = some (some (.ref p)) := fun a p => by
    rw [List.getElem?_set_ne (by decide), List.getElem?_set_self (by rw [List.length_set]; omega)]
  cases du with
  | face =>
    refine ⟨true, T.x_BadFace_BadFace, fun _ a na => ⟨d, v, rfl, rfl, s4 a, hd, fun p hp => ?_⟩, fun z => by cases z⟩
    show D.nx _ _
    rw [hD]
    exact ⟨.ref p, s3 a p, caught g hx q hp⟩
  | dir =>
    refine ⟨false, T.x_BadDirection_BadFace, fun z => (by cases z), fun _ => ⟨true, T.x_BadDirection_BadDirection, fun _ a na => ⟨d, v, rfl, rfl, s4 a, hd, fun p hp => ?_⟩, fun z => by cases z⟩⟩
    show D.nx _ _
    rw [hD]
    exact ⟨.ref p, s3 a p, caught g hx q hp⟩
  | strip =>
    refine ⟨false, T.x_BadStrip_BadFace, fun z => (by cases z), fun _ => ⟨false, T.x_BadStrip_BadDirection, fun z => (by cases z), fun _ => ⟨true, T.x_BadStrip_BadStrip, fun _ a na => ⟨d, v, rfl, rfl, s4 a, hd, fun p hp => ?_⟩, fun z => by cases z⟩⟩⟩
    show D.nx _ _
    rw [hD]
    exact ⟨.ref p, s3 a p, caught g hx q hp⟩
theorem c_refused_bad : Cal P w K mg base 10 "_law_refused" (spP P w K (ι := List Int × Int × PyData × PyData × PyData × PyData × PyData) (fun i => [bxV K i.1, stV K i.2.2.1 i.2.2.2.1 i.2.2.2.2.1 i.2.2.2.2.2.1, .d (.int i.2.1)]) (fun i => i.1.length = 3 ∧ Spo i.1 i.2.2.1 i.2.2.2.1 i.2.2.2.2.1 i.2.2.2.2.2.1 i.2.2.2.2.2.2) (fun i => .d i.2.2.2.2.2.2)) := by
  obtain ⟨fd, F⟩ := T.D_law_refused
  refine ⟨_, fd, _, F.ok sc_law_refused (fun vs H Q E h => ?_) (fun cdv Ar outer s H vs Q E hr h => ?_), T.g_law_refused, F.kp, F.bindsN (ps := ["_law_box", "_law_strip", "_law_way"]) fun _ _ _ _ _ _ us hl => match us, hl with | [_, _, _], _ => rfl⟩
  · obtain ⟨i, B, hC, hs, hv, _⟩ := h
    rw [vsok_len hv]
    rfl
  · obtain ⟨⟨s', way, fd', dd, lo, hi, due⟩, B, ⟨h3, ⟨b, l, c, f, x, hC, hck, du, _⟩⟩, hs, hv, q⟩ := h
    dsimp only at h3 hC hck du
    let X := cxOf CX0 P w K mg base N_law_refused d_law_refused.qual (defScope st_law_refused) (He.fAd K d_law_refused.at_) cdv Ar outer s H E
    let G0 : Gm := [some (.v (bxV K s')), some (.v (stV K fd' dd lo hi)), some (.v (.d (.int way))), none, none]
    let G1 : Gm := [some (.v (bxV K s')), some (.v (stV K fd' dd lo hi)), some (.v (.d (.int way))), some (.v (.d (.str "done"))), none]
    let tb : WX → TS := fun W => tO (zx X none) (EW 5 W) G1 (fun o => o = .ex (He.ga K c) f x)
    have cs : s'.length = 3 ∧ (wholeD fd' 0 5 = true → dd = seqD b (l.map PyData.int) ∧ Bd 10000 l) := ⟨h3, hC⟩
    refine ⟨tSeq (tO (zx X none) E0 G0 (fun o => o = .nx G1)) (tSeq (fun D σ H => tb (wAsM K 4 D (hdsL K)) D σ H) (fun D σ H => ∃ v, σ[3]? = some (some v) ∧ D.rt v H)), pss_cons ?_ (pss_cons ?_ (pss_one ?_)), ?_⟩
    · exact s_asg (X := X) 3 sc_law_refused.nd x_str rfl
    · refine ps_try_asM (X := X) (tb := tb) rfl rfl sc_law_refused.nd rfl rfl ?_ (.cons ⟨rfl, rfl, .inl T.g_BadFace⟩ (fun a oe cls d pn hz hf => su_word T.o_BadFace.2 T.n_BadFace_face hz hf sc_law_refused.nd rfl rfl (Or.inl rfl) (.inr rfl) (Or.inl rfl) rfl rfl rfl rfl rfl rfl) (.cons ⟨rfl, rfl, .inl T.g_BadDirection⟩ (fun a oe cls d pn hz hf => su_word T.o_BadDirection.2 T.n_BadDirection_what hz hf sc_law_refused.nd rfl rfl (Or.inl rfl) (.inr rfl) (Or.inl rfl) rfl rfl rfl rfl rfl rfl) (.cons ⟨rfl, rfl, .inl T.g_BadStrip⟩ (fun a oe cls d pn hz hf => su_word T.o_BadStrip.2 T.n_BadStrip_what hz hf sc_law_refused.nd rfl rfl (Or.inl rfl) (.inr rfl) (Or.inl rfl) rfl rfl rfl rfl rfl rfl) .stop)))
      intro W pn xe tk _
      have hx : Passes (L2.CX P w) (X.tr pn xe) (EW 5 W) := passes_call (takes_len tk) (fun cls d σ H h hl => h σ hl)
      have e1 : rzO K (stR K) (ckR s' fd' lo hi l) = .ex (He.ga K c) f x := by rw [hck]; rfl
      have e2 : rzO K (aftV K s') (ckR s' fd' lo hi l) = .ex (He.ga K c) f x := by rw [hck]; rfl
      have e3 : rzO K (befV K s') (ckR s' fd' lo hi l) = .ex (He.ga K c) f x := by rw [hck]; rfl
      refine s_one (X := X.tr pn xe) (M := none) (Γ := G1) (s_if (t_eqI (x_var 2) x_int) (fun _ => ?_) (fun n0 => ?_))
      · exact s_one (s_exprX (x_callX (c_check_strip T) hr (s', fd', dd, lo, hi, b, l) hx (xa_cons (x_var 0) (xa_cons (x_var 1) xa_nil)) (by exact cs) (by exact e1)) rfl)
      · refine s_one (s_if (t_eqI (x_var 2) x_int) (fun _ => ?_) (fun n1 => ?_))
        · exact s_one (s_exprX (x_callX (c_strip_after T) hr (s', fd', dd, lo, hi, b, l) hx (xa_cons (x_var 0) (xa_cons (x_var 1) xa_nil)) (by exact cs) (by exact e2)) rfl)
        · refine s_one (s_if (t_eqI (x_var 2) x_int) (fun n2 => ?_) (fun _ => ?_))
          · exact s_one (s_exprX (x_callX (c_lane_of_strip T) hr (s', fd', dd, lo, hi, b, l) hx (xa_cons (x_var 0) (xa_cons (x_var 1) xa_nil)) (by exact ⟨cs.1, cs.2, c, f, x, hck⟩) (by exact e1)) rfl)
          · exact s_one (s_exprX (x_callX (c_strip_before T) hr (s', fd', dd, lo, hi, b, l) hx (xa_cons (x_var 0) (xa_cons (x_var 1) xa_nil)) (by exact cs) (by exact e3)) rfl)
    · exact ps_imp (ps_ret (X := X) (pv 3)) fun D σ H h => h
    · refine ⟨B, H, B, ok_start (Z := zx X none) hs hv (fun h z => by cases z), ⟨fun G σ1 B1 H1 e o1 sm => ?_, fun r v b h e => (by cases e), fun G s b h e => (by cases e), fun G s b h e => (by cases e), fun C f x v d b h e => (by cases e)⟩⟩
      have e := O.nx.inj e
      subst e
      refine ⟨B, H, B1, o1, ⟨fun G s b h e => (by cases e), fun r v b h e => (by cases e), fun G s b h e => (by cases e), fun G s b h e => (by cases e), fun C f' x' v d b h e g hM hd hx => ?_⟩⟩
      have e := e
      cases e
      exact fun σ hσ => caught_ok T g hd hx du (fun σ H => rfl) (fun v B' H' g hv => q v B' H' g hv) σ hσ
end
end K27
set_option maxHeartbeats 4000000
/-! What is refused: the range; equality. -/
namespace K27
open PySem PySem.Spec PyProof.Rows L2
local macro_rules | `(tactic| walk_at "c") => `(tactic| first | trivial | assumption | (dsimp only; (repeat' apply And.intro) <;> first | assumption | trivial | omega) | ((repeat' apply And.intro) <;> first | assumption | trivial | omega))
local macro_rules | `(tactic| walk_at "ix") => `(tactic| (try dsimp only); first | exact ix_ti (by omega) (by omega) | exact ix_li (by omega) (by omega) | exact ix_frames (by omega) (by omega) | rfl)
local macro_rules | `(tactic| walk_at "sx") => `(tactic| (try dsimp only); exact ixN_of (by omega) (by first | omega | (simp only [List.length_set, List.length_map, List.length_cons, List.length_nil]; omega)))
local macro_rules | `(tactic| walk_at "div") => `(tactic| (try dsimp only); first | exact ⟨by omega, by omega⟩ | omega)
local macro_rules | `(tactic| walk_at "mul") => `(tactic| (try dsimp only); first | exact .inl ⟨by omega, by omega⟩ | exact .inr ⟨by omega, by omega⟩)
def Due2 (c f : Str) (x due : PyData) : Prop := (c = "BadFace" ∧ f = "face" ∧ due = .tuple [.str "face", x]) ∨ (c = "BadDirection" ∧ f = "what" ∧ due = .tuple [.str "direction", x])
def hds2 (K : PySem.W.Frag) : List (Value × (Addr → Value → Option Addr → TS)) := [(.ref (He.ga K "BadFace"), tsW "face" "face" (He.ga K "BadFace")), (.ref (He.ga K "BadDirection"), tsW "direction" "what" (He.ga K "BadDirection"))]
section
variable {P : Program} {w : World} {K : PySem.W.Frag} {mg : Str → Option Value} {base : Heap} (T : Tx K mg)
include T
theorem caught_ok2 {D : Ends} {Q : VK} {B0 H0 B h : Hp} {d : Addr} {v : V} {c f : Str} {x due : PyData} (g : Gr none B0 H0 B h) (hd : h d = some (.xd [(f, v)])) (hx : Dp K B v x) (du : Due2 c f x due)
    (hD : ∀ σ H, D.nx σ H = ∃ v, σ[3]? = some (some v) ∧ Q v H) (q : ∀ v B' H', Gr none B0 H0 B' H' → Dp K B' v due → Q v H') (σ : L2.St) (hσ : σ.length = 5) : wAsM K 4 D (hds2 K) (.ref (He.ga K c)) (some d) σ h := by
  have s4 : ∀ a : Addr, (σ.set 4 (some (.ref a)))[4]? = some (some (.ref a)) := fun a => List.getElem?_set_self (by omega)
  have s3 : ∀ a p : Addr, (((σ.set 4 (some (.ref a))).set 3 (some (.ref p))).set 4 none)[3]? = some (some (.ref p)) := fun a p => by
    rw [List.getElem?_set_ne (by decide), List.getElem?_set_self (by rw [List.length_set]; omega)]
  rcases du with ⟨rfl, rfl, rfl⟩ | ⟨rfl, rfl, rfl⟩
  · refine ⟨true, T.x_BadFace_BadFace, fun _ a na => ⟨d, v, rfl, rfl, s4 a, hd, fun p hp => ?_⟩, fun z => by cases z⟩
    show D.nx _ _
    rw [hD]
    exact ⟨.ref p, s3 a p, caught g hx q hp⟩
  · refine ⟨false, T.x_BadDirection_BadFace, fun z => (by cases z), fun _ => ⟨true, T.x_BadDirection_BadDirection, fun _ a na => ⟨d, v, rfl, rfl, s4 a, hd, fun p hp => ?_⟩, fun z => by cases z⟩⟩
    show D.nx _ _
    rw [hD]
    exact ⟨.ref p, s3 a p, caught g hx q hp⟩
theorem c_range_refused : Cal P w K mg base 9 "_law_range_refused" (spP P w K (ι := List Int × PyData × PyData × Bool × List Int × PyData) (fun i => [bxV K i.1, .d i.2.1, .d i.2.2.1]) (fun i => i.1.length = 3 ∧ (wholeD i.2.1 0 5 = true → i.2.2.1 = seqD i.2.2.2.1 (i.2.2.2.2.1.map PyData.int) ∧ Bd 10000 i.2.2.2.2.1) ∧ ∃ c f x, dirR i.2.1 i.2.2.2.2.1 = .no c f x ∧ Due2 c f x i.2.2.2.2.2) (fun i => .d i.2.2.2.2.2)) := by
  obtain ⟨fd, F⟩ := T.D_law_range_refused
  refine ⟨_, fd, _, F.ok sc_law_range_refused (fun vs H Q E h => ?_) (fun cdv Ar outer s H vs Q E hr h => ?_), T.g_law_range_refused, F.kp, F.bindsN (ps := ["_law_box", "_law_face", "_law_steps_here"]) fun _ _ _ _ _ _ us hl => match us, hl with | [_, _, _], _ => rfl⟩
  · obtain ⟨i, B, hC, hs, hv, _⟩ := h
    rw [vsok_len hv]
    rfl
  · obtain ⟨⟨s', fd', dd, b, l, due⟩, B, ⟨h3, hC, c, f, x, hck, du⟩, hs, hv, q⟩ := h
    dsimp only at h3 hC hck du
    let X := cxOf CX0 P w K mg base N_law_range_refused d_law_range_refused.qual (defScope st_law_range_refused) (He.fAd K d_law_range_refused.at_) cdv Ar outer s H E
    let G0 : Gm := [some (.v (bxV K s')), some (.v (.d fd')), some (.v (.d dd)), none, none]
    let G1 : Gm := [some (.v (bxV K s')), some (.v (.d fd')), some (.v (.d dd)), some (.v (.d (.str "done"))), none]
    let tb : WX → TS := fun W => tO (zx X none) (EW 5 W) G1 (fun o => o = .ex (He.ga K c) f x)
    refine ⟨tSeq (tO (zx X none) E0 G0 (fun o => o = .nx G1)) (tSeq (fun D σ H => tb (wAsM K 4 D (hds2 K)) D σ H) (fun D σ H => ∃ v, σ[3]? = some (some v) ∧ D.rt v H)), pss_cons ?_ (pss_cons ?_ (pss_one ?_)), ?_⟩
    · exact s_asg (X := X) 3 sc_law_range_refused.nd x_str rfl
    · refine ps_try_asM (X := X) (tb := tb) rfl rfl sc_law_range_refused.nd rfl rfl ?_ (.cons ⟨rfl, rfl, .inl T.g_BadFace⟩ (fun a oe cls d pn hz hf => su_word T.o_BadFace.2 T.n_BadFace_face hz hf sc_law_range_refused.nd rfl rfl (Or.inl rfl) (.inr rfl) (Or.inl rfl) rfl rfl rfl rfl rfl rfl) (.cons ⟨rfl, rfl, .inl T.g_BadDirection⟩ (fun a oe cls d pn hz hf => su_word T.o_BadDirection.2 T.n_BadDirection_what hz hf sc_law_range_refused.nd rfl rfl (Or.inl rfl) (.inr rfl) (Or.inl rfl) rfl rfl rfl rfl rfl rfl) .stop))
      intro W pn xe tk _
      have hx : Passes (L2.CX P w) (X.tr pn xe) (EW 5 W) := passes_call (takes_len tk) (fun cls d σ H h hl => h σ hl)
      have e1 : rzO K (fun r : Int × Int => .d (.tuple [.int r.1, .int r.2])) (rngR s' fd' l) = .ex (He.ga K c) f x := by
        unfold rngR
        rw [hck]
        rfl
      exact s_one (X := X.tr pn xe) (M := none) (Γ := G1) (s_exprX (x_callX (c_sideways_range T) hr (s', fd', dd, b, l) hx (xa_cons (x_var 0) (xa_cons (x_var 1) (xa_cons (x_var 2) xa_nil))) (by exact ⟨h3, hC⟩) (by exact e1)) rfl)
    · exact ps_imp (ps_ret (X := X) (pv 3)) fun D σ H h => h
    · refine ⟨B, H, B, ok_start (Z := zx X none) hs hv (fun h z => by cases z), ⟨fun G σ1 B1 H1 e o1 sm => ?_, fun r v b h e => (by cases e), fun G s b h e => (by cases e), fun G s b h e => (by cases e), fun C f x v d b h e => (by cases e)⟩⟩
      have e := O.nx.inj e
      subst e
      refine ⟨B, H, B1, o1, ⟨fun G s b h e => (by cases e), fun r v b h e => (by cases e), fun G s b h e => (by cases e), fun G s b h e => (by cases e), fun C f' x' v d b h e g hM hd hx => ?_⟩⟩
      have e := e
      cases e
      exact fun σ hσ => caught_ok2 T g hd hx du (fun σ H => rfl) (fun v B' H' g hv => q v B' H' g hv) σ hσ
def othL (r : Str4) : List Str4 := [(r.1 + 1, r.2.1, r.2.2.1, r.2.2.2), (r.1, negL r.2.1, r.2.2.1, r.2.2.2), (r.1, r.2.1, r.2.2.1 - 1, r.2.2.2), (r.1, r.2.1, r.2.2.1, r.2.2.2 + 1)]
omit T in
theorem oth_ne {r z : Str4} (h : negL r.2.1 ≠ r.2.1) (hz : z ∈ othL r) : eqSt (r, z) = false := by
  obtain ⟨f, d, lo, hi⟩ := r
  have h : negL d ≠ d := h
  unfold eqSt
  rcases List.mem_cons.mp hz with rfl | hz
  · show (decide (f = f + 1) && _) = false
    rw [decide_eq_false (by omega)]
    rfl
  rcases List.mem_cons.mp hz with rfl | hz
  · show (decide (f = f) && (decide (d = negL d) && _)) = false
    rw [show decide (d = negL d) = false from decide_eq_false (fun e => h e.symm), Bool.false_and, Bool.and_false]
  rcases List.mem_cons.mp hz with rfl | hz
  · show (decide (f = f) && (decide (d = d) && (decide (lo = lo - 1) && _))) = false
    rw [decide_eq_false (show ¬ lo = lo - 1 by omega), Bool.false_and, Bool.and_false, Bool.and_false]
  · rw [List.mem_singleton.mp hz]
    show (decide (f = f) && (decide (d = d) && (decide (lo = lo) && decide (hi = hi + 1)))) = false
    rw [decide_eq_false (show ¬ hi = hi + 1 by omega), Bool.and_false, Bool.and_false, Bool.and_false]
omit T in
theorem eqSt_self (r : Str4) : eqSt (r, r) = true := by
  unfold eqSt
  simp
theorem c_equal_right : Cal P w K mg base 4 "_law_equal_right" (spP P w K (ι := Str4) (fun r => [.d (rowD r)]) (fun r => r.2.1.length ≤ 1000 ∧ negL r.2.1 ≠ r.2.1) (fun _ => .d (.bool true))) := by
  obtain ⟨fd, F⟩ := T.D_law_equal_right
  refine ⟨_, fd, _, fun_pure F sc_law_equal_right (fun _ => rfl) (fun r cdv Ar outer s H E hC hr => ?_), T.g_law_equal_right, F.kp, F.bindsN (ps := ["_law_row"]) fun _ _ _ _ _ _ us hl => match us, hl with | [_], _ => rfl⟩
  obtain ⟨f, d, lo, hi⟩ := r
  obtain ⟨hdl, hne⟩ := hC
  dsimp only at hdl hne
  let r : Str4 := (f, d, lo, hi)
  refine s_cons (s_asg 1 sc_law_equal_right.nd (x_call (c_law_as_strip T) hr r (xa_cons (x_var 0) xa_nil) (by trivial)) ?_)
  refine s_cons (s_if (Rc := fun k => k = false) (tdt_mono (w_or (k := false) (tdt_mono (t_not (t_eqO (e_Strip T) T.m_Strip_eq nf_self hr (r, r) (x_var 1) (x_call (c_law_as_strip T) hr r (xa_cons (x_var 0) xa_nil) (by trivial)) rfl (by trivial))) (fun k h => by rw [h, eqSt_self]; rfl)) (fun _ => (w_or (k := false) (tdt_mono (t_neO (e_Strip T) T.m_Strip_eq T.ex2.1 hr (r, r) (x_var 1) (x_call (c_law_as_strip T) hr r (xa_cons (x_var 0) xa_nil) (by trivial)) rfl (by trivial)) (fun k h => by rw [h, eqSt_self]; rfl)) (fun _ => (w_or (k := false) (t_eqO (e_StripSplit T) T.m_Strip_eq T.ex2.2.2.2.2.2.2.2.1 hr (r, f) (x_var 1) (x_make (k_Split T) hr (ds := [.int f]) (xp_cons (x_ix (z := .int f) (x_var 0) x_int (by rfl)) xp_nil)) rfl (by trivial)) (fun _ => (w_or1 (t_eqO (e_SplitStrip T) T.m_Split_eq T.ex2.2.2.2.2.2.2.2.2 hr (f, r) (x_make (k_Split T) hr (ds := [.int f]) (xp_cons (x_ix (z := .int f) (x_var 0) x_int (by rfl)) xp_nil)) (x_var 1) rfl (by trivial))))))))).pt (fun k h => h)) (fun h => by cases h) (fun _ => s_nil ?_))
  refine s_cons (s_asg 2 (r := .d (.list [rowD (f + 1, d, lo, hi), rowD (f, negL d, lo, hi)])) sc_law_equal_right.nd (x_lst (xp_cons (x_tup (xp_cons (x_add (x_ix (z := .int f) (x_var 0) x_int (by rfl)) x_int) (xp_cons (x_ix (z := ti d) (x_var 0) x_int (by rfl)) (xp_cons (x_ix (z := .int lo) (x_var 0) x_int (by rfl)) (xp_cons (x_ix (z := .int hi) (x_var 0) x_int (by rfl)) xp_nil))))) (xp_cons (x_tup (xp_cons (x_ix (z := .int f) (x_var 0) x_int (by rfl)) (xp_cons (x_ix (z := ti (negL d)) (x_call (c_law_strip_back T) hr r (xa_cons (x_var 0) xa_nil) (by exact hdl)) x_int (by rfl)) (xp_cons (x_ix (z := .int lo) (x_var 0) x_int (by rfl)) (xp_cons (x_ix (z := .int hi) (x_var 0) x_int (by rfl)) xp_nil))))) xp_nil)) (by show 2 ≤ 1000; decide)) ?_)
  refine s_cons (s_asgN 2 sc_law_equal_right.nd (n_cat (es := [rowD (f, d, lo - 1, hi), rowD (f, d, lo, hi + 1)]) (x_var 2) (x_lst (xp_cons (x_tup (xp_cons (x_ix (z := .int f) (x_var 0) x_int (by rfl)) (xp_cons (x_ix (z := ti d) (x_var 0) x_int (by rfl)) (xp_cons (x_sub (x_ix (z := .int lo) (x_var 0) x_int (by rfl)) x_int) (xp_cons (x_ix (z := .int hi) (x_var 0) x_int (by rfl)) xp_nil))))) (xp_cons (x_tup (xp_cons (x_ix (z := .int f) (x_var 0) x_int (by rfl)) (xp_cons (x_ix (z := ti d) (x_var 0) x_int (by rfl)) (xp_cons (x_ix (z := .int lo) (x_var 0) x_int (by rfl)) (xp_cons (x_add (x_ix (z := .int hi) (x_var 0) x_int (by rfl)) x_int) xp_nil))))) xp_nil)) (by show 2 ≤ 1000; decide)) (by show 2 + 2 ≤ 1000; decide)) (fun _ e => ?_))
  subst e
  refine s_freeze 2 (ds := (othL r).map rowD) ?_
  refine s_re [some (.v (.d (rowD r))), some (.v (stR K r)), some (.v (.d (.list ((othL r).map rowD)))), none] ?_
  refine s_cons (s_for 3 (fun i G => ∃ o3, G = [some (.v (.d (rowD r))), some (.v (stR K r)), some (.v (.d (.list ((othL r).map rowD)))), o3]) PassesOwn.never rfl (wlk_gl rowD r) sc_law_equal_right.nd (p_lst (x_var 2)) ?_ ?_ ?_ ?_)
  · intro i G hG
    obtain ⟨o3, rfl⟩ := hG
    exact Nat.le_of_ble_eq_true rfl
  · exact ⟨none, rfl⟩
  · intro i G hi' hG
    obtain ⟨o3, rfl⟩ := hG
    have hm : (othL r).getD i r ∈ othL r := by
      rw [List.getD_eq_getElem?_getD, List.getElem?_eq_getElem hi']
      exact List.getElem_mem hi'
    have hf := oth_ne (r := r) hne hm
    generalize (othL r).getD i r = z at *
    refine s_one (s_if (Rc := fun k => k = false) (tdt_mono (w_or (k := false) (tdt_mono (t_eqO (e_Strip T) T.m_Strip_eq nf_self hr (r, z) (x_var 1) (x_call (c_law_as_strip T) hr z (xa_cons (x_var 3) xa_nil) (by trivial)) rfl (by trivial)) (fun k h => by rw [h, hf])) (fun _ => (w_or1 (t_not (t_neO (e_Strip T) T.m_Strip_eq T.ex2.1 hr (r, z) (x_var 1) (x_call (c_law_as_strip T) hr z (xa_cons (x_var 3) xa_nil) (by trivial)) rfl (by trivial)))))).pt (fun k h => by rw [h, hf]; rfl)) (fun h => by cases h) (fun _ => s_nil ⟨_, rfl⟩))
  · intro G hG
    obtain ⟨o3, rfl⟩ := hG
    refine s_one (s_ret (x_and (x_eqO (e_Split T) T.m_Split_eq nf_self hr (f, f) (x_make (k_Split T) hr (ds := [.int f]) (xp_cons (x_ix (z := .int f) (x_var 0) x_int (by rfl)) xp_nil)) (x_make (k_Split T) hr (ds := [.int f]) (xp_cons (x_ix (z := .int f) (x_var 0) x_int (by rfl)) xp_nil)) rfl (by trivial)) (fun _ => (x_and (x_not (x_eqO (e_Split T) T.m_Split_eq nf_self hr (f, f + 1) (x_make (k_Split T) hr (ds := [.int f]) (xp_cons (x_ix (z := .int f) (x_var 0) x_int (by rfl)) xp_nil)) (x_make (k_Split T) hr (ds := [.int (f + 1)]) (xp_cons (x_add (x_ix (z := .int f) (x_var 0) x_int (by rfl)) x_int) xp_nil)) rfl (by trivial))) (fun _ => (x_one (x_eqI (x_fld (y := .int f) (x_make (k_Split T) hr (ds := [.int f]) (xp_cons (x_ix (z := .int f) (x_var 0) x_int (by rfl)) xp_nil)) T.c_Split T.n_Split_corner (by rfl)) (x_ix (z := .int f) (x_var 0) x_int (by rfl)))))))) ?_)
    show _ = VD.d (.bool true)
    have e1 : decide (f = f + 1) = false := decide_eq_false (by omega)
    have e2 : decide (f = f) = true := decide_eq_true rfl
    show VD.d (.bool (decide (f = f) && (!decide (f = f + 1) && decide (f = f)))) = _
    rw [e1, e2]
    rfl
end
end K27
set_option maxHeartbeats 4000000
/-! The hand is made. -/
namespace K27
open PySem PySem.Spec PyProof.Rows L2
local macro_rules | `(tactic| walk_at "c") => `(tactic| first | trivial | assumption | (dsimp only; (repeat' apply And.intro) <;> first | assumption | trivial | omega) | ((repeat' apply And.intro) <;> first | assumption | trivial | omega))
local macro_rules | `(tactic| walk_at "ix") => `(tactic| (try dsimp only); first | exact ix_ti (by omega) (by omega) | exact ix_li (by omega) (by omega) | exact ix_frames (by omega) (by omega) | rfl)
local macro_rules | `(tactic| walk_at "sx") => `(tactic| (try dsimp only); exact ixN_of (by omega) (by first | omega | (simp only [List.length_set, List.length_map, List.length_cons, List.length_nil]; omega)))
local macro_rules | `(tactic| walk_at "div") => `(tactic| (try dsimp only); first | exact ⟨by omega, by omega⟩ | omega)
local macro_rules | `(tactic| walk_at "mul") => `(tactic| (try dsimp only); first | exact .inl ⟨by omega, by omega⟩ | exact .inr ⟨by omega, by omega⟩)
/-- a block that ends by handing back a new list of its own -/
def tOh (Z : Zt) (Γ : Gm) (R : List PyData → Prop) : TS := fun D σ H => ∃ B0 H0 B, Ok Z B0 H0 B H σ Γ ∧ ∀ l ds vs B' H', R ds → Gr Z.M B0 H0 B' H' → H0 l = none → B' l = none → H' l = some (.lst vs) → DpAll Z.K B' vs ds → D.rt (.ref l) H'
section
variable {X : Cx} {M : Option Addr} {Γ : Gm} {R : List PyData → Prop} {e : Expr} {st : Stmt} {rest sts : List Stmt} {pos : Pos}
theorem h_cons (h : PS X st (tO (zx X M) E0 Γ (fun o => ∃ Γ', o = .nx Γ' ∧ PSs X rest (tOh (zx X M) Γ' R)))) : PSs X (st :: rest) (tOh (zx X M) Γ R) := by
  have h2 : PSs X rest (fun D σ H => ∃ Γ', PSs X rest (tOh (zx X M) Γ' R) ∧ tOh (zx X M) Γ' R D σ H) := ⟨fun pins s σ H D I ⟨Γ', h2, q⟩ => h2.run pins s σ H D I q⟩
  exact pss_imp (pss_cons h h2) fun D σ H ⟨B0, H0, B, o, k⟩ => ⟨B0, H0, B, o, fun G s b h ⟨Γ', e, pr⟩ o' sm => by
    cases e
    exact ⟨_, pr, B0, H0, b, o', k⟩, fun r v b h ⟨_, e, _⟩ => (by cases e), fun G s b h ⟨_, e, _⟩ => (by cases e), fun G s b h ⟨_, e, _⟩ => (by cases e), fun C f x v d b h ⟨_, e, _⟩ => (by cases e)⟩
theorem h_ret (he : PE X e (tN (zx X M) Γ R)) : PSs X [.Return (some e) pos] (tOh (zx X M) Γ R) :=
  pss_imp (pss_one (ps_ret he)) fun D σ H ⟨B0, H0, B, o, k⟩ => ⟨B0, H0, B, o, fun l vs ds B1 H1 hd g1 o1 hl hb hm hH hvs => by
    have h0 : H0 l = none := by
      cases q : H0 l with
      | none => rfl
      | some w => exact absurd hl (o.gr.al l (by rw [q]; simp))
    exact k l ds vs B1 H1 hd o1.gr h0 hb hH hvs⟩
theorem h_freeze (i : Nat) {ds : List PyData} (h : PSs X sts (tOh (zx X M) (Γ.set i (some (.v (.d (.list ds))))) R)) (hG : Γ[i]? = some (some (.mu ds)) := by rfl) : PSs X sts (tOh (zx X M) Γ R) :=
  pss_imp h fun D σ H ⟨B0, H0, B, o, k⟩ => by
    obtain ⟨l, vs, h1, h2, h3, h4, o2⟩ := o.freeze hG
    exact ⟨B0, H0, _, o2, k⟩
end
def spHd (K : PySem.W.Frag) : Sp := fun vs H Q _ => ∃ (a : Addr) (ns : List Int) (B : Hp), vs = [.ref a] ∧ Same B H ∧ Dp K B (.ref a) (li ns) ∧ ns.length ≤ 63 ∧ ∀ h B' H', Gr none B H B' H' → HandAt K B' H' h → Q (.ref h) H'
section
variable {P : Program} {w : World} {K : PySem.W.Frag} {mg : Str → Option Value} {base : Heap} (T : Tx K mg)
include T
theorem c_law_hand : Cal P w K mg base 1 "_law_hand" (spHd K) := by
  obtain ⟨fd, F⟩ := T.D_law_hand
  refine ⟨_, fd, _, F.ok sc_law_hand (fun vs H Q E h => ?_) (fun cdv Ar outer s H vs Q E hr h => ?_), T.g_law_hand, F.kp, F.bindsN (ps := ["_law_script"]) fun _ _ _ _ _ _ us hl => match us, hl with | [_], _ => rfl⟩
  · obtain ⟨a, ns, B, rfl, _⟩ := h
    rfl
  · obtain ⟨a, ns, B, rfl, hs, hv, hl, q⟩ := h
    let X := (cxOf CX0 P w K mg base N_law_hand d_law_hand.qual (defScope st_law_hand) (He.fAd K d_law_hand.at_) cdv Ar outer s H E).nox
    let RR : List PyData → Prop := fun ds => ∃ cells tot, HdB cells 0 0 tot ∧ ds = hdL cells 0 0 tot
    let ab : Int → Int := fun x => if x < 0 then -x else x
    refine ⟨tOh (zx X none) (gstart N_law_hand [.d (li ns)]) RR, PSs.nox ?_, ?_⟩
    · refine h_cons (X := X) (s_asg 1 sc_law_hand.nd (x_add (x_mul x_int (x_len T.f_len true (ds := ns.map PyData.int) PySem.boot_len (x_var 0)) (by exact .inl ⟨by decide, by decide⟩)) x_int) ⟨_, rfl, ?_⟩)
      refine h_cons (X := X) (s_asgN 2 sc_law_hand.nd (n_lst xp_nil) (fun _ e => ⟨_, rfl, ?_⟩))
      subst e
      refine h_cons (X := X) (s_for 3 (fun i G => ∃ tot o3, (0 ≤ tot ∧ tot < 2147483549) ∧ G = [some (.v (.d (li ns))), some (.v (.d (.int tot))), some (.mu (((ns.take i).map ab).map PyData.int)), o3]) PassesOwn.never rfl wlk_li sc_law_hand.nd (p_lst (x_var 0)) ?_ ?_ ?_ ?_)
      · intro i G hG
        obtain ⟨tot, o3, _, rfl⟩ := hG
        exact Nat.le_of_ble_eq_true rfl
      · exact ⟨3 * ((ns.map PyData.int).length : Int) + 71, none, by rw [List.length_map]; omega, rfl⟩
      · intro i G hi hG
        obtain ⟨tot, o3, ht, rfl⟩ := hG
        have tl : (ns.take i).length ≤ 63 := Nat.le_trans (List.length_take_le _ _) (by omega)
        refine s_cons (s_asg 1 sc_law_hand.nd (x_mod (x_int1 T.f_int PyProof.Rows.boot_int (x_add (x_mul (x_var 1) x_int (by exact .inr ⟨by decide, by decide⟩)) (x_int1 T.f_int PyProof.Rows.boot_int (x_var 3)))) x_int (by decide)) ?_)
        refine s_one (s_append 2 (ds := ((ns.take i).map ab).map PyData.int) (x_abs T.f_abs PyProof.Rows.boot_abs (x_int1 T.f_int PyProof.Rows.boot_int (x_var 3))) (by rw [List.length_map, List.length_map]; omega) ?_)
        refine ⟨(tot * 1103 + ns.getD i 0) % 2147483549, some (.v (.d (.int (ns.getD i 0)))), ⟨Int.emod_nonneg _ (by decide), Int.emod_lt_of_pos _ (by decide)⟩, ?_⟩
        rw [take_next hi, List.map_append, List.map_append]
        rfl
      · intro G hG
        obtain ⟨tot, o3, ht, rfl⟩ := hG
        rw [List.take_length]
        refine ⟨_, rfl, ?_⟩
        refine h_freeze 2 (ds := (ns.map ab).map PyData.int) ?_
        refine h_ret (X := X) (pe_imp (n_lst (xp_cons (x_var 2) (xp_cons x_int (xp_cons x_int (xp_cons (x_var 1) xp_nil)))) (by show 4 ≤ 1000; decide)) fun σ H Q ⟨B0, H0, B, o, k⟩ => ⟨B0, H0, B, o, fun l vs ds B1 H1 hd => k l vs ds B1 H1 ?_⟩)
        refine ⟨ns.map ab, tot, ⟨fun x hx => ?_, Int.le_refl 0, Int.le_refl 0, ht.1, ht.2⟩, hd⟩
        obtain ⟨y, _, rfl⟩ := List.mem_map.mp hx
        show 0 ≤ (if y < 0 then -y else y)
        split <;> omega
    · refine ⟨B, H, B, ok_start (Z := zx X none) (rs := [.d (li ns)]) hs (.cons hv .nil) (fun h z => by cases z), fun l ds vs B' H' hR g h0 hb hH hvs => ?_⟩
      obtain ⟨cells, tot, hB, rfl⟩ := hR
      refine q l B' H' g ⟨hb, ?_⟩
      cases hvs with
      | cons d1 d2 =>
        cases d2 with
        | cons d3 d4 =>
          cases d4 with
          | cons d5 d6 =>
            cases d6 with
            | cons d7 d8 =>
              cases d8
              obtain ⟨c2, ws, rfl, w1, w2⟩ := dpl (show Dp K B' _ (.list (cells.map PyData.int)) from d1)
              rw [dpi d3, dpi d5, dpi d7] at hH
              have e := dpall_ints2 w2
              rw [e] at w1
              exact ⟨c2, cells, 0, 0, tot, hH, w1, hB⟩
end
end K27
set_option maxHeartbeats 4000000
/-! The units: a dict of places. -/
namespace K27
open PySem PySem.Spec PyProof.Rows L2
local macro_rules | `(tactic| walk_at "c") => `(tactic| first | trivial | assumption | (dsimp only; (repeat' apply And.intro) <;> first | assumption | trivial | omega) | ((repeat' apply And.intro) <;> first | assumption | trivial | omega))
local macro_rules | `(tactic| walk_at "ix") => `(tactic| (try dsimp only); first | exact ix_ti (by omega) (by omega) | exact ix_li (by omega) (by omega) | exact ix_frames (by omega) (by omega) | rfl)
local macro_rules | `(tactic| walk_at "sx") => `(tactic| (try dsimp only); exact ixN_of (by omega) (by first | omega | (simp only [List.length_set, List.length_map, List.length_cons, List.length_nil]; omega)))
local macro_rules | `(tactic| walk_at "div") => `(tactic| (try dsimp only); first | exact ⟨by omega, by omega⟩ | omega)
local macro_rules | `(tactic| walk_at "mul") => `(tactic| (try dsimp only); first | exact .inl ⟨by omega, by omega⟩ | exact .inr ⟨by omega, by omega⟩)
def spR (P : Program) (w : World) (K : PySem.W.Frag) {ι : Type} (A : ι → List VD) (C : ι → Prop) (R : ι → VD → Prop) : Sp := fun vs H Q _ => ∃ (i : ι) (B : Hp), C i ∧ Same B H ∧ VsOk ⟨P, w, K, none⟩ B vs (A i) ∧ ∀ r v B' H', R i r → Gr none B H B' H' → VOk ⟨P, w, K, none⟩ B' v r → Q v H'
theorem fun_pureR {P : Program} {w : World} {K : PySem.W.Frag} {mg : Str → Option Value} {base : Heap} {ι : Type} {A : ι → List VD} {C : ι → Prop} {R : ι → VD → Prop} {y qual : Str} {params : Arguments} {bd : List Stmt} {scope : Scope} {dvs : List V} {kws : List (Str × V)} {f : Addr} {fd : FuncData} {N ps : List Str} {k : Nat}
    (F : FunD K y qual params bd scope dvs kws f fd) (S : FnScope N ps scope) (hl : ∀ i, (A i).length = ps.length)
    (hb : ∀ (i : ι) (cdv : Value) (Ar : Around) (outer : List Env) (s : Shared) (H : Hp) (E : XK), C i → Room k (Ar.deeper (envOfC qual scope s.heap.objs.size f cdv)) →
      PSs (cxOf CX0 P w K mg base N qual scope f cdv Ar outer s H E).nox bd (tO (zx (cxOf CX0 P w K mg base N qual scope f cdv Ar outer s H E).nox none) E0 (gstart N (A i)) (PFR (R i)))) : FnOk P w K mg base CX0 (k + 1) f fd ps (spR P w K A C R) := by
  refine F.ok S (fun vs H Q E h => ?_) (fun cdv Ar outer s H vs Q E hr h => ?_)
  · obtain ⟨i, B, hC, hs, hv, _⟩ := h
    rw [vsok_len hv, hl]
  · obtain ⟨i, B, hC, hs, hv, q⟩ := h
    refine ⟨_, (hb i cdv Ar outer s H E hC hr).nox, B, H, B, ok_start hs hv (fun h z => by cases z), ⟨fun G s b h hp o sm => hp.elim, fun r v b h hp g hM hv => q r v b h hp g hv, fun G s b h hp o sm => hp.elim, fun G s b h hp o sm => hp.elim, fun C f x v d b h hp => hp.elim⟩⟩
theorem x_callN {X : Cx} {M : Option Addr} {Γ : Gm} {e : Expr} {es : List Expr} {p pos : Pos} {x : Str} {ι : Type} {A : ι → List VD} {C : ι → Prop} {R : ι → VD → Prop} {k j : Nat} (cl : Cal X.prog X.w X.K X.mg X.base k x (spR X.prog X.w X.K A C R)) (hr : Room j X.A) (i : ι) (ha : PA X (e :: es) (tDA (zx X M) Γ (fun l => l = A i))) (hC : C i) (hk : k ≤ j := by decide) (hg : Gl X x := by rfl)
    (hdb : (x == ("__debug__" : Str)) = false := by decide) (he : starEach (e :: es) X.env = (false, eval e X.env) :: starEach es X.env := by rfl) (hpl : (backTo pos (starEach es X.env)).any (·.1) = false := by rfl) : PE X (.Call (.Name x p) (e :: es) [] pos) (tD (zx X M) Γ (R i)) := by
  obtain ⟨f, fd, ps, F, hm, hkp, hb⟩ := cl.ex
  refine pe_imp (pe_call F (hr.mono hk) hg hm hkp hb .nil pass0 ha hdb he hpl) fun σ H Q ⟨B0, H0, B, o, q⟩ => ⟨B0, H0, B, o, fun vs rs B1 H1 hrs g1 o1 hvs => ?_⟩
  subst hrs
  rw [List.append_nil]
  exact ⟨i, B1, hC, o1.bh, vsok_m hvs, fun r v B' H' hR g hv => q v r B' H' hR (g1.trans g.lift) (o1.grow g) (vok_m hv)⟩
/-! ### what is stored -/
abbrev Ue := Int × Int × List Int × Int
def alM (f b : Int) : Int := 3 - f / 2 - b / 2
def placeM (s : List Int) (N f b kk st : Int) : List Int := (([0, 0, 0].set (f / 2).toNat (gi s (f / 2) * 2 * N * (f % 2))).set (b / 2).toNat (gi s (b / 2) * 2 * N * (b % 2))).set (alM f b).toNat ((2 * kk + 1) * (N / st))
def plE (s : List Int) (N : Int) (e : Ue) : List Int := placeM s N e.1 e.2.1 e.2.2.2 (outw e.2.1 e.2.2.1)
def keyE (s : List Int) (N : Int) (e : Ue) : NestedKey := .tup (keyN e.2.1 (goneM e.1 e.2.1 e.2.2.1) (idxM N e.2.1 (goneM e.1 e.2.1 e.2.2.1) (plE s N e)))
structure Ent (s : List Int) (p q : Int) (e : Ue) : Prop where
  f0 : 0 ≤ e.1
  f6 : e.1 < 6
  b0 : 0 ≤ e.2.1
  b6 : e.2.1 < 6
  d4 : e.2.2.1 ∈ fourM e.1 p q
  ne : e.1 / 2 ≠ e.2.1 / 2
  st : 0 < outw e.2.1 e.2.2.1
  k0 : 0 ≤ e.2.2.2
  k1 : e.2.2.2 < outw e.2.1 e.2.2.1 * gi s (alM e.1 e.2.1)
structure UI (s : List Int) (p q : Int) (S : Ue → Prop) (n : Nat) (kvs : List (NestedKey × PyData)) : Prop where
  sound : ∀ kv ∈ kvs, ∃ e, Ent s p q e ∧ kv = (keyE s (manyM p q) e, ti (plE s (manyM p q) e))
  full : ∀ e, Ent s p q e → S e → ∃ kv ∈ kvs, kv.1 = keyE s (manyM p q) e
  len : kvs.length ≤ n
theorem storedD_mem {kvs : List (NestedKey × PyData)} {k : NestedKey} {d : PyData} {kv : NestedKey × PyData} (h : kv ∈ storedD kvs k d) : kv ∈ kvs ∨ kv = (k, d) := by
  unfold storedD at h
  split at h
  · obtain ⟨x, hx, rfl⟩ := List.mem_map.mp h
    by_cases e : x.1 = k
    · rw [if_pos e, ← e]
      exact .inr rfl
    · rw [if_neg e]
      exact .inl hx
  · rcases List.mem_append.mp h with h | h
    · exact .inl h
    · exact .inr (List.mem_singleton.mp h)
theorem storedD_key {kvs : List (NestedKey × PyData)} {k k' : NestedKey} {d : PyData} (h : (∃ kv ∈ kvs, kv.1 = k') ∨ k' = k) : ∃ kv ∈ storedD kvs k d, kv.1 = k' := by
  unfold storedD
  split
  · rename_i ha
    have old : ∀ {k'}, (∃ kv ∈ kvs, kv.1 = k') → ∃ kv ∈ kvs.map (fun kv => if kv.1 = k then (kv.1, d) else kv), kv.1 = k' := fun {k'} ⟨kv, hk, e⟩ => by
      refine ⟨_, List.mem_map.mpr ⟨kv, hk, rfl⟩, ?_⟩
      by_cases q : kv.1 = k
      · rw [if_pos q]
        exact e
      · rw [if_neg q]
        exact e
    rcases h with h | rfl
    · exact old h
    · obtain ⟨kv, hk, e⟩ := List.any_eq_true.mp ha
      exact old ⟨kv, hk, of_decide_eq_true e⟩
  · rcases h with ⟨kv, hk, e⟩ | rfl
    · exact ⟨kv, List.mem_append_left _ hk, e⟩
    · exact ⟨_, List.mem_append_right _ List.mem_cons_self, rfl⟩
theorem storedD_len {kvs : List (NestedKey × PyData)} {k : NestedKey} {d : PyData} : (storedD kvs k d).length ≤ kvs.length + 1 := by
  unfold storedD
  split
  · rw [List.length_map]
    omega
  · rw [List.length_append]
    exact Nat.le_refl _
theorem UI.put {s : List Int} {p q : Int} {S S' : Ue → Prop} {n : Nat} {kvs : List (NestedKey × PyData)} (u : UI s p q S n kvs) (e : Ue) (he : Ent s p q e) (hS : ∀ x, S' x → S x ∨ x = e) : UI s p q S' (n + 1) (storedD kvs (keyE s (manyM p q) e) (ti (plE s (manyM p q) e))) := by
  refine ⟨fun kv h => ?_, fun x hx h => ?_, Nat.le_trans storedD_len (Nat.succ_le_succ u.len)⟩
  · rcases storedD_mem h with h | h
    · exact u.sound kv h
    · exact ⟨e, he, h⟩
  · rcases hS x h with h | rfl
    · exact storedD_key (.inl (u.full x hx h))
    · exact storedD_key (.inr rfl)
theorem UI.weak {s : List Int} {p q : Int} {S S' : Ue → Prop} {n m : Nat} {kvs : List (NestedKey × PyData)} (u : UI s p q S n kvs) (hS : ∀ x, Ent s p q x → S' x → S x) (hn : n ≤ m) : UI s p q S' m kvs := ⟨u.sound, fun x hx h => u.full x hx (hS x hx h), Nat.le_trans u.len hn⟩
end K27
set_option maxHeartbeats 4000000
/-! The units: the walk. -/
namespace K27
open PySem PySem.Spec PyProof.Rows L2
local macro_rules | `(tactic| walk_at "c") => `(tactic| first | trivial | assumption | (dsimp only; (repeat' apply And.intro) <;> first | assumption | trivial | omega) | ((repeat' apply And.intro) <;> first | assumption | trivial | omega))
local macro_rules | `(tactic| walk_at "ix") => `(tactic| (try dsimp only); first | exact ix_ti (by omega) (by omega) | exact ix_li (by omega) (by omega) | exact ix_frames (by omega) (by omega) | rfl)
local macro_rules | `(tactic| walk_at "sx") => `(tactic| (try dsimp only); exact ixN_of (by omega) (by first | omega | (simp only [List.length_set, List.length_map, List.length_cons, List.length_nil]; omega)))
local macro_rules | `(tactic| walk_at "div") => `(tactic| (try dsimp only); first | exact ⟨by omega, by omega⟩ | omega)
local macro_rules | `(tactic| walk_at "mul") => `(tactic| (try dsimp only); first | exact .inl ⟨by omega, by omega⟩ | exact .inr ⟨by omega, by omega⟩)
structure UC (s : List Int) (p q : Int) : Prop where
  h3 : s.length = 3
  hs : ∀ x ∈ s, 1 ≤ x ∧ x ≤ 12
  p0 : -1000 ≤ p
  p1 : p ≤ 1000
  n0 : 0 < manyM p q
  n1 : manyM p q ≤ 1000
  d4 : ∀ f d, 0 ≤ f → f < 6 → d ∈ fourM f p q → d.length = 3 ∧ Bd 4 d
def S1 (i : Int) (e : Ue) : Prop := e.1 < i
def S2 (i j : Int) (e : Ue) : Prop := e.1 < i ∨ (e.1 = i ∧ e.2.1 < j)
def S3 (p q i j : Int) (m : Nat) (e : Ue) : Prop := S2 i j e ∨ (e.1 = i ∧ e.2.1 = j ∧ ∃ t, t < m ∧ e.2.2.1 = (fourM i p q).getD t [])
def S4 (p q i j : Int) (m : Nat) (k : Int) (e : Ue) : Prop := S3 p q i j m e ∨ (e.1 = i ∧ e.2.1 = j ∧ e.2.2.1 = (fourM i p q).getD m [] ∧ e.2.2.2 < k)
theorem four_at {f p q : Int} {d : List Int} (h : d ∈ fourM f p q) : ∃ t, t < 4 ∧ d = (fourM f p q).getD t [] := by
  obtain ⟨t, ht, e⟩ := List.getElem_of_mem h
  refine ⟨t, ht, ?_⟩
  rw [List.getD_eq_getElem?_getD, List.getElem?_eq_getElem ht]
  exact e.symm
theorem at_four {f p q : Int} {t : Nat} (h : t < 4) : (fourM f p q).getD t [] ∈ fourM f p q := by
  rw [List.getD_eq_getElem?_getD, List.getElem?_eq_getElem (show t < (fourM f p q).length from h)]
  exact List.getElem_mem _
section
variable {P : Program} {w : World} {K : PySem.W.Frag} {mg : Str → Option Value} {base : Heap} (T : Tx K mg)
include T
theorem c_units : Cal P w K mg base 4 "_law_units" (spR P w K (ι := List Int × Int × Int) (fun i => [.d (li i.1), .d (ti [i.2.1, i.2.2])]) (fun i => UC i.1 i.2.1 i.2.2) (fun i y => ∃ kvs, UI i.1 i.2.1 i.2.2 (fun _ => True) 7000 kvs ∧ y = .dc kvs)) := by
  obtain ⟨fd, F⟩ := T.D_law_units
  refine ⟨_, fd, _, fun_pureR F sc_law_units (fun _ => rfl) (fun ⟨s', p, q⟩ cdv Ar outer s H E hC hr => ?_), T.g_law_units, F.kp, F.bindsN (ps := ["_law_sides", "_law_slope"]) fun _ _ _ _ _ _ us hl => match us, hl with | [_, _], _ => rfl⟩
  obtain ⟨h3, hs, p0, p1, n0, n1, hd4⟩ := hC
  dsimp only at h3 hs p0 p1 n0 n1 hd4
  have sb : ∀ i : Int, 0 ≤ i → i < 3 → 1 ≤ gi s' i ∧ gi s' i ≤ 12 := fun i i0 i3 => hs _ (gi_mem i0 (by rw [h3]; exact i3))
  have ixs : ∀ i : Int, 0 ≤ i → i < 3 → ixD (li s') i = some (.int (gi s' i)) := fun i i0 i3 => ix_li i0 (by rw [h3]; exact i3)
  generalize eN : manyM p q = N at *
  let Gp : List (NestedKey × PyData) → List (Option Slt) → Gm := fun kvs os => [some (.v (.d (li s'))), some (.v (.d (ti [p, q]))), some (.v (.d (.int N))), some (.md kvs)] ++ os
  refine s_cons (s_asg 2 sc_law_units.nd (x_eq (x_call (c_law_many T) hr (p, q) (xa_cons (x_var 1) xa_nil) (by exact ⟨p0, p1⟩)) (congrArg (fun z => VD.d (.int z)) eN)) ?_)
  refine s_cons (s_asgDc 3 sc_law_units.nd ?_)
  refine s_re [some (.v (.d (li s'))), some (.v (.d (ti [p, q]))), some (.v (.d (.int N))), some (.md []), none, none, none, none, none, none, none, none] ?_
  refine s_cons (s_for 4 (fun i G => ∃ kvs o4 o5 o6 o7 o8 o9 o10 o11, UI s' p q (S1 i) (i * 1152) kvs ∧ G = [some (.v (.d (li s'))), some (.v (.d (ti [p, q]))), some (.v (.d (.int N))), some (.md kvs), o4, o5, o6, o7, o8, o9, o10, o11]) PassesOwn.never rfl (wlk_rng1 (by omega)) sc_law_units.nd (p_rng1 T.f_range x_int) ?_ ?_ ?_ ?_)
  · intro i G hG
    obtain ⟨kvs, o4, o5, o6, o7, o8, o9, o10, o11, u, rfl⟩ := hG
    exact Nat.le_of_ble_eq_true rfl
  · exact ⟨[], none, none, none, none, none, none, none, none, ⟨fun kv h => (nomatch h), fun e he h => absurd h (by have := he.f0; unfold S1; omega), Nat.le_refl 0⟩, rfl⟩
  · intro i G hi hG
    obtain ⟨kvs, o4, o5, o6, o7, o8, o9, o10, o11, u, rfl⟩ := hG
    have hi : i < 6 := hi
    generalize ef : (0 : Int) + (i : Int) = f at *
    have f0 : 0 ≤ f := by omega
    have f6 : f < 6 := by omega
    refine s_re [some (.v (.d (li s'))), some (.v (.d (ti [p, q]))), some (.v (.d (.int N))), some (.md kvs), some (.v (.d (.int f))), o5, o6, o7, o8, o9, o10, o11] ?_
    refine s_one (s_for 5 (fun j G => ∃ kvs o5 o6 o7 o8 o9 o10 o11, UI s' p q (S2 f j) (i * 1152 + j * 192) kvs ∧ G = [some (.v (.d (li s'))), some (.v (.d (ti [p, q]))), some (.v (.d (.int N))), some (.md kvs), some (.v (.d (.int f))), o5, o6, o7, o8, o9, o10, o11]) PassesOwn.never rfl (wlk_rng1 (by omega)) sc_law_units.nd (p_rng1 T.f_range x_int) ?_ ?_ ?_ ?_)
    · intro j G hG
      obtain ⟨kvs, o5, o6, o7, o8, o9, o10, o11, u, rfl⟩ := hG
      exact Nat.le_of_ble_eq_true rfl
    · refine ⟨kvs, o5, o6, o7, o8, o9, o10, o11, u.weak (fun x hx h => ?_) (by omega), rfl⟩
      have := hx.b0
      unfold S2 at h
      unfold S1
      omega
    · intro j G hj hG
      clear u
      obtain ⟨kvs, o5, o6, o7, o8, o9, o10, o11, u, rfl⟩ := hG
      have hj : j < 6 := hj
      generalize eb : (0 : Int) + (j : Int) = b at *
      have b0 : 0 ≤ b := by omega
      have b6 : b < 6 := by omega
      refine s_re [some (.v (.d (li s'))), some (.v (.d (ti [p, q]))), some (.v (.d (.int N))), some (.md kvs), some (.v (.d (.int f))), some (.v (.d (.int b))), o6, o7, o8, o9, o10, o11] ?_
      refine s_cons (s_asg 6 (r := .d (.int (alM f b))) sc_law_units.nd (x_sub (x_sub x_int (x_fdiv (x_var 4) x_int (by decide))) (x_fdiv (x_var 5) x_int (by decide))) ?_)
      refine s_re [some (.v (.d (li s'))), some (.v (.d (ti [p, q]))), some (.v (.d (.int N))), some (.md kvs), some (.v (.d (.int f))), some (.v (.d (.int b))), some (.v (.d (.int (alM f b)))), o7, o8, o9, o10, o11] ?_
      refine s_one (s_for 7 (fun m G => ∃ kvs o7 o8 o9 o10 o11, UI s' p q (S3 p q f b m) (i * 1152 + j * 192 + m * 48) kvs ∧ G = [some (.v (.d (li s'))), some (.v (.d (ti [p, q]))), some (.v (.d (.int N))), some (.md kvs), some (.v (.d (.int f))), some (.v (.d (.int b))), some (.v (.d (.int (alM f b)))), o7, o8, o9, o10, o11]) PassesOwn.never rfl (wlk_gl ti []) sc_law_units.nd (p_lst (x_call (c_law_four T) hr (f, p, q) (xa_cons (x_var 4) (xa_cons (x_var 1) xa_nil)) (by exact ⟨f0, f6⟩))) ?_ ?_ ?_ ?_)
      · intro m G hG
        obtain ⟨kvs, o7, o8, o9, o10, o11, u, rfl⟩ := hG
        exact Nat.le_of_ble_eq_true rfl
      · refine ⟨kvs, o7, o8, o9, o10, o11, u.weak (fun x hx h => ?_) (by omega), rfl⟩
        rcases h with h | ⟨_, _, t, ht, _⟩
        · rw [← eb] at h
          unfold S2 at h ⊢
          omega
        · omega
      · intro m G hm hG
        clear u
        obtain ⟨kvs, o7, o8, o9, o10, o11, u, rfl⟩ := hG
        have hm : m < 4 := hm
        have hdm := @at_four f p q m hm
        obtain ⟨hdl, hdB⟩ := hd4 f _ f0 f6 hdm
        generalize ed : (fourM f p q).getD m [] = d at *
        have ob := outw_bd hdB (show 0 ≤ b / 2 by omega) (by rw [hdl]; omega)
        let st : Int := if f / 2 = b / 2 then 0 else outw b d
        have al : 0 ≤ alM f b % 3 ∧ alM f b % 3 < 3 := by omega
        have sa := sb _ al.1 al.2
        let n : Nat := ((if st > 0 then st else 0) * gi s' (alM f b % 3)).toNat
        have st4 : (if st > 0 then st else 0) ≤ 4 ∧ 0 ≤ (if st > 0 then st else 0) := by
          show (if (if f / 2 = b / 2 then 0 else outw b d) > 0 then (if f / 2 = b / 2 then 0 else outw b d) else 0) ≤ 4 ∧ 0 ≤ (if (if f / 2 = b / 2 then 0 else outw b d) > 0 then (if f / 2 = b / 2 then 0 else outw b d) else 0)
          split <;> split <;> omega
        have pr48 : (if st > 0 then st else 0) * gi s' (alM f b % 3) ≤ 48 := Int.le_trans (Int.mul_le_mul st4.1 sa.2 (by omega) (by decide)) (by decide)
        have pr0 : 0 ≤ (if st > 0 then st else 0) * gi s' (alM f b % 3) := Int.mul_nonneg st4.2 (by omega)
        have n48 : n ≤ 48 := by
          show ((if st > 0 then st else 0) * gi s' (alM f b % 3)).toNat ≤ 48
          omega
        refine s_re [some (.v (.d (li s'))), some (.v (.d (ti [p, q]))), some (.v (.d (.int N))), some (.md kvs), some (.v (.d (.int f))), some (.v (.d (.int b))), some (.v (.d (.int (alM f b)))), some (.v (.d (ti d))), o8, o9, o10, o11] ?_ (by rw [← ed]; rfl)
        refine s_cons (s_asg 8 (r := .d (.int st)) sc_law_units.nd ?_ ?_)
        · by_cases hfb : f / 2 = b / 2
          · have e : st = 0 := if_pos hfb
            rw [e]
            exact x_ifF (tdt_mono (t_neI (x_fdiv (x_var 4) x_int (by decide)) (x_fdiv (x_var 5) x_int (by decide))) (fun k h => by rw [h, decide_eq_true hfb]; rfl)) x_int
          · have e : st = outw b d := if_neg hfb
            rw [e]
            exact x_ifT (tdt_mono (t_neI (x_fdiv (x_var 4) x_int (by decide)) (x_fdiv (x_var 5) x_int (by decide))) (fun k h => by rw [h, decide_eq_false hfb]; rfl)) (x_call (c_law_out T) hr (b, d) (xa_cons (x_var 5) (xa_cons (x_var 7) xa_nil)) (by exact ⟨b0, b6, hdl⟩))
        refine s_re [some (.v (.d (li s'))), some (.v (.d (ti [p, q]))), some (.v (.d (.int N))), some (.md kvs), some (.v (.d (.int f))), some (.v (.d (.int b))), some (.v (.d (.int (alM f b)))), some (.v (.d (ti d))), some (.v (.d (.int st))), o9, o10, o11] ?_
        refine s_one (s_for 9 (fun k G => ∃ kvs o9 o10 o11, UI s' p q (S4 p q f b m k) (i * 1152 + j * 192 + m * 48 + k) kvs ∧ G = [some (.v (.d (li s'))), some (.v (.d (ti [p, q]))), some (.v (.d (.int N))), some (.md kvs), some (.v (.d (.int f))), some (.v (.d (.int b))), some (.v (.d (.int (alM f b)))), some (.v (.d (ti d))), some (.v (.d (.int st))), o9, o10, o11]) PassesOwn.never rfl (wlk_rng1 (hi := (if st > 0 then st else 0) * gi s' (alM f b % 3)) (by omega)) sc_law_units.nd (p_rng1 T.f_range (x_mul (x_max2 T.f_max rfl PyProof.Rows.boot_max x_int (x_var 8)) (x_ix (z := .int (gi s' (alM f b % 3))) (x_var 0) (x_mod (x_int1 T.f_int PyProof.Rows.boot_int (x_var 6)) x_int (by decide)) (by exact ixs _ al.1 al.2)) (by exact .inr ⟨by omega, by omega⟩))) ?_ ?_ ?_ ?_)
        · intro k G hG
          obtain ⟨kvs, o9, o10, o11, u, rfl⟩ := hG
          exact Nat.le_of_ble_eq_true rfl
        · refine ⟨kvs, o9, o10, o11, u.weak (fun x hx h => ?_) (by omega), rfl⟩
          rcases h with h | ⟨_, _, _, h⟩
          · exact h
          · have := hx.k0
            exact absurd h (by omega)
        · intro k G hk hG
          clear u
          obtain ⟨kvs, o9, o10, o11, u, rfl⟩ := hG
          have hk : (k : Int) < (if st > 0 then st else 0) * gi s' (alM f b % 3) := by
            have hk : k < ((if st > 0 then st else 0) * gi s' (alM f b % 3)).toNat := hk
            omega
          have sp : st > 0 := by
            by_cases z : st > 0
            · exact z
            · rw [if_neg z, Int.zero_mul] at hk
              omega
          have hfb : ¬ f / 2 = b / 2 := fun z => by
            have e : st = 0 := if_pos z
            omega
          have est : st = outw b d := if_neg hfb
          rw [if_pos sp, est] at hk
          rw [est] at sp
          have ea : alM f b % 3 = alM f b := by
            unfold alM
            omega
          have al2 : 0 ≤ alM f b ∧ alM f b < 3 := by omega
          rw [ea] at hk
          let e : Ue := (f, b, d, (k : Int))
          have he : Ent s' p q e := ⟨f0, f6, b0, b6, hdm, hfb, sp, by show (0 : Int) ≤ k; omega, hk⟩
          have gl : (goneM f b d).length = 3 := by rw [goneM_len]; exact hdl
          have gB : Bd 10000 (goneM f b d) := (goneM_bd (by decide) hdB (by omega) (by rw [hdl]; omega)).mono (by decide)
          have kl : kvs.length ≤ 100000 := Nat.le_trans u.len (by omega)
          have s1 := sb (f / 2) (by omega) (by omega)
          have s2 := sb (b / 2) (by omega) (by omega)
          have nd0 := Int.ediv_nonneg (Int.le_of_lt n0) (Int.le_of_lt sp)
          have nd1 := Int.ediv_le_self (outw b d) (Int.le_of_lt n0)
          generalize ek : (0 : Int) + (k : Int) = kk
          have ek2 : kk = (k : Int) := by omega
          subst ek2
          let w := goneM f b d
          let pl := placeM s' N f b k st
          refine s_re [some (.v (.d (li s'))), some (.v (.d (ti [p, q]))), some (.v (.d (.int N))), some (.md kvs), some (.v (.d (.int f))), some (.v (.d (.int b))), some (.v (.d (.int (alM f b)))), some (.v (.d (ti d))), some (.v (.d (.int st))), some (.v (.d (.int k))), o10, o11] ?_
          refine s_cons (s_asgN 10 sc_law_units.nd (n_lst (xp_cons x_int (xp_cons x_int (xp_cons x_int xp_nil)))) (fun _ e => ?_))
          subst e
          refine s_cons (s_setII 10 [0, 0, 0] (x_mul (x_mul (x_mul (x_ix (z := .int (gi s' (f / 2))) (x_var 0) (x_fdiv (x_var 4) x_int (by decide)) (by exact ixs _ (by omega) (by omega))) x_int (by exact .inr ⟨by decide, by decide⟩)) (x_var 2) (by exact .inr ⟨by omega, by omega⟩)) (x_mod (x_int1 T.f_int PyProof.Rows.boot_int (x_var 4)) x_int (by decide)) (by exact .inr ⟨by omega, by omega⟩)) (x_fdiv (x_var 4) x_int (by decide)) (by show 0 ≤ f / 2 ∧ f / 2 < 3; omega) ?_)
          refine s_cons (s_setII 10 ([0, 0, 0].set (f / 2).toNat (gi s' (f / 2) * 2 * N * (f % 2))) (x_mul (x_mul (x_mul (x_ix (z := .int (gi s' (b / 2))) (x_var 0) (x_fdiv (x_var 5) x_int (by decide)) (by exact ixs _ (by omega) (by omega))) x_int (by exact .inr ⟨by decide, by decide⟩)) (x_var 2) (by exact .inr ⟨by omega, by omega⟩)) (x_mod (x_int1 T.f_int PyProof.Rows.boot_int (x_var 5)) x_int (by decide)) (by exact .inr ⟨by omega, by omega⟩)) (x_fdiv (x_var 5) x_int (by decide)) (by rw [List.length_set]; show 0 ≤ b / 2 ∧ b / 2 < 3; omega) ?_)
          refine s_cons (s_setII 10 (([0, 0, 0].set (f / 2).toNat (gi s' (f / 2) * 2 * N * (f % 2))).set (b / 2).toNat (gi s' (b / 2) * 2 * N * (b % 2))) (x_mul (x_add (x_mul x_int (x_var 9) (by exact .inl ⟨by decide, by decide⟩)) x_int) (x_fdiv (x_var 2) (x_var 8) (by exact ⟨by omega, by omega⟩)) (by rw [est]; exact .inr ⟨by omega, by omega⟩)) (x_var 6) (by rw [List.length_set, List.length_set]; exact al2) ?_)
          refine s_cons (s_asg 11 (r := .d (ti w)) sc_law_units.nd (x_call (c_law_over T) hr (f, b, d) (xa_cons (x_var 4) (xa_cons (x_var 5) (xa_cons (x_var 7) xa_nil))) (by exact ⟨f0, f6, b0, b6, hdl⟩)) ?_)
          refine s_freeze 10 (ds := pl.map PyData.int) ?_
          refine s_re [some (.v (.d (li s'))), some (.v (.d (ti [p, q]))), some (.v (.d (.int N))), some (.md kvs), some (.v (.d (.int f))), some (.v (.d (.int b))), some (.v (.d (.int (alM f b)))), some (.v (.d (ti d))), some (.v (.d (.int st))), some (.v (.d (.int k))), some (.v (.d (li pl))), some (.v (.d (ti w)))] ?_
          have pl3 : pl.length = 3 := by
            show ((([0, 0, 0].set _ _).set _ _).set _ _ : List Int).length = 3
            rw [List.length_set, List.length_set, List.length_set]
            rfl
          have u2 := u.put (S' := S4 p q f b m ((k + 1 : Nat) : Int)) e he (fun x hx => by
            rcases hx with hx | ⟨x1, x2, x3, x4⟩
            · exact .inl (.inl hx)
            · by_cases h : x.2.2.2 < (k : Int)
              · exact .inl (.inr ⟨x1, x2, x3, h⟩)
              · right
                obtain ⟨a, b', c, dd⟩ := x
                dsimp only at x1 x2 x3 x4 h
                have : dd = (k : Int) := by omega
                rw [x1, x2, x3, ed, this])
          rw [eN] at u2
          have epl : plE s' N e = pl := by
            show placeM s' N f b k (outw b d) = placeM s' N f b k st
            rw [est]
          have ekey : keyE s' N e = .tup (keyN b w (idxM N b w pl)) := by
            unfold keyE
            rw [epl]
          rw [ekey, epl] at u2
          refine s_one (s_setDc 3 (kvs := kvs) (keyN b w (idxM N b w pl)) hr (x_tupL T.f_tuple PyProof.Rows.boot_tuple (x_var 10)) (x_eq (x_tup (xp_cons (x_var 5) (xp_cons (x_var 11) (xp_cons (x_fdiv (x_sub (x_fdiv (x_call (c_law_across T) hr (b, w, true, pl) (xa_cons (x_var 5) (xa_cons (x_var 11) (xa_cons (x_var 10) xa_nil))) (by exact ⟨b0, b6, gl, pl3, gB⟩)) (x_var 2) (by exact ⟨n0, by omega⟩)) x_int) x_int (by decide)) xp_nil)))) (congrArg VD.d (keyN_D b w (idxM N b w pl)).symm)) (keyN_8 _ _ _) kl ?_)
          exact ⟨_, _, _, _, u2, rfl⟩
        · intro G hG
          clear u
          obtain ⟨kvs, o9, o10, o11, u, rfl⟩ := hG
          refine ⟨kvs, _, _, _, _, _, u.weak (fun x hx h => ?_) (by
            have : ((if st > 0 then st else 0) * gi s' (alM f b % 3)).toNat ≤ 48 := n48
            omega), rfl⟩
          rcases h with h | ⟨x1, x2, t, ht, x3⟩
          · exact .inl (.inl h)
          · by_cases q : t < m
            · exact .inl (.inr ⟨x1, x2, t, q, x3⟩)
            · have : t = m := by omega
              subst this
              refine .inr ⟨x1, x2, x3, ?_⟩
              have k1 := hx.k1
              have ne := hx.ne
              have xst := hx.st
              rw [x1, x2] at ne
              rw [x1, x2, x3, ed] at k1
              rw [x2, x3, ed] at xst
              have est : st = outw b d := if_neg ne
              have ea : alM f b % 3 = alM f b := by
                unfold alM
                omega
              rw [← est] at k1 xst
              rw [← ea] at k1
              rw [if_pos xst, Int.toNat_of_nonneg (by rw [if_pos xst] at pr0; exact pr0)]
              exact k1
      · intro G hG
        clear u
        obtain ⟨kvs, o7, o8, o9, o10, o11, u, rfl⟩ := hG
        refine ⟨kvs, _, _, _, _, _, _, _, u.weak (fun x hx h => ?_) (by show i * 1152 + j * 192 + 4 * 48 ≤ _; omega), rfl⟩
        have x0 := hx.b0
        rcases h with h | ⟨x1, x2⟩
        · exact .inl (.inl h)
        · by_cases q : x.2.1 < b
          · exact .inl (.inr ⟨x1, q⟩)
          · obtain ⟨t, ht, e⟩ := four_at hx.d4
            rw [x1] at e
            exact .inr ⟨x1, by omega, t, ht, e⟩
    · intro G hG
      clear u
      obtain ⟨kvs, o5, o6, o7, o8, o9, o10, o11, u, rfl⟩ := hG
      refine ⟨kvs, _, _, _, _, _, _, _, _, u.weak (fun x hx h => ?_) (by show i * 1152 + 6 * 192 ≤ _; omega), rfl⟩
      have x6 := hx.b6
      unfold S1 at h
      by_cases q : x.1 < f
      · exact .inl q
      · exact .inr ⟨by omega, x6⟩
  · intro G hG
    obtain ⟨kvs, o4, o5, o6, o7, o8, o9, o10, o11, u, rfl⟩ := hG
    refine s_freezeD 3 ?_
    refine s_one (s_ret (x_var 3) ?_)
    exact ⟨kvs, u.weak (fun x hx _ => hx.f6) (by decide), rfl⟩
end
end K27
set_option maxHeartbeats 4000000
/-! The law itself. -/
namespace K27
open PySem PySem.Spec PyProof.Rows L2
local macro_rules | `(tactic| walk_at "c") => `(tactic| first | trivial | assumption | (dsimp only; (repeat' apply And.intro) <;> first | assumption | trivial | omega) | ((repeat' apply And.intro) <;> first | assumption | trivial | omega))
local macro_rules | `(tactic| walk_at "ix") => `(tactic| (try dsimp only); first | exact ix_ti (by omega) (by omega) | exact ix_li (by omega) (by omega) | exact ix_frames (by omega) (by omega) | rfl)
local macro_rules | `(tactic| walk_at "sx") => `(tactic| (try dsimp only); exact ixN_of (by omega) (by first | omega | (simp only [List.length_set, List.length_map, List.length_cons, List.length_nil]; omega)))
local macro_rules | `(tactic| walk_at "div") => `(tactic| (try dsimp only); first | exact ⟨by omega, by omega⟩ | omega)
local macro_rules | `(tactic| walk_at "mul") => `(tactic| (try dsimp only); first | exact .inl ⟨by omega, by omega⟩ | exact .inr ⟨by omega, by omega⟩)
section
variable {X : Cx} {M : Option Addr} {E : XK} {Γ : Gm} {P : O → Prop} {e : Expr} {pos p : Pos}
theorem s_unpackLR (is : List Nat) {R : VD → Prop} {ts : List Expr} {k1 : Nat} (hc : X.calm = true) (he : PE X e (tD (zx X M) Γ R)) (hg : PGs X ts (gNs is)) (h : ∀ y, R y → ∃ ds, y = .d (.list ds) ∧ ds.length = is.length ∧ P (.nx (setAll Γ is ds))) (hl : (is.all fun i => Nat.blt i Γ.length) = true := by rfl)
    (hn : (assignEach ts X.env).length = is.length := by rfl) (hst : (assignEach ts X.env).findIdx? (·.1) = none := by rfl) (hs : swapsWithSole [.Tuple ts k1 p] e pos.line X.env = pure false := by rfl) (hw : swappedStores [.Tuple ts k1 p] e X.env = pure none := by rfl)
    (h1 : (assignEach [.Tuple ts k1 p] X.env).map (·.2) = [assign (.Tuple ts k1 p) X.env] := by rfl) : PS X (.Assign [.Tuple ts k1 p] e pos) (tO (zx X M) E Γ P) :=
  ps_imp (ps_asg he (pg_lst hc hg hn hst) hs hw h1) fun D σ H ⟨B0, H0, B, o, k⟩ => ⟨B0, H0, B, o, fun v r B1 H1 hr g1 o1 hv => by
    obtain ⟨ds, e, hd, hp⟩ := h r hr
    subst e
    obtain ⟨a, vs, rfl, q1, q2⟩ := dpl hv
    have lv := (dpall_len q2).trans hd
    exact ⟨a, vs, rfl, o1.bh.seq q1, lv, gNs_ok o1 (fun i hi => by rw [← o1.len, (show σ.length = Γ.length from o1.len)]; exact Nat.le_of_ble_eq_true (List.all_eq_true.mp hl i hi)) lv q2 fun σ' o' => k.nx _ σ' B1 H1 hp o' g1.bb⟩⟩
/-- x, y = [instance, data] -/
theorem s_unpack2 (i j : Nat) {R : VD → Prop} {ts : List Expr} {k1 : Nat} (hc : X.calm = true) (he : PE X e (tD (zx X M) Γ R)) (hg : PGs X ts (gNs [i, j])) (h : ∀ y, R y → ∃ C fs d, y = .l2 C fs d ∧ P (.nx ((Γ.set i (some (.v (.ob C fs)))).set j (some (.v (.d d)))))) (hi : i < Γ.length := by exact Nat.le_of_ble_eq_true rfl) (hj : j < Γ.length := by exact Nat.le_of_ble_eq_true rfl)
    (hn : (assignEach ts X.env).length = 2 := by rfl) (hst : (assignEach ts X.env).findIdx? (·.1) = none := by rfl) (hs : swapsWithSole [.Tuple ts k1 p] e pos.line X.env = pure false := by rfl) (hw : swappedStores [.Tuple ts k1 p] e X.env = pure none := by rfl)
    (h1 : (assignEach [.Tuple ts k1 p] X.env).map (·.2) = [assign (.Tuple ts k1 p) X.env] := by rfl) : PS X (.Assign [.Tuple ts k1 p] e pos) (tO (zx X M) E Γ P) :=
  ps_imp (ps_asg he (pg_lst hc hg hn hst) hs hw h1) fun D σ H ⟨B0, H0, B, o, k⟩ => ⟨B0, H0, B, o, fun v r B1 H1 hr g1 o1 hv => by
    obtain ⟨C, fs, d, e, hp⟩ := h r hr
    subst e
    obtain ⟨l, a, u, dx, vs, rfl, q1, q2, q3, q4, q5⟩ := hv
    refine ⟨l, [.ref a, u], rfl, o1.bh.seq q1, rfl, .ref a, [u], rfl, u, [], rfl, rfl, ?_⟩
    have o2 := o1.set (r := .ob C fs) hi ⟨a, dx, vs, rfl, q2, q3, q4⟩
    have o3 := o2.set (i := j) (r := .d d) (by rw [List.length_set]; exact hj) q5
    exact k.nx _ _ B1 H1 hp o3 g1.bb⟩
end
theorem sh_done : SeqAt.shaped (.str "done") = true := by decide +kernel
structure LawOk (s : List Int) (p q : Int) : Prop where
  dx : DomX s p q
  uc : UC s p q
  bk : ∀ r, RowD s p q r → RowD s p q (backR r)
  af : ∀ kvs, UI s p q (fun _ => True) 7000 kvs → ∀ r, RowD s p q r → ∃ b1 k1 b2 k2, Aft s p q kvs r b1 k1 b2 k2
  ng : ∀ f d, 0 ≤ f → f < 6 → d ∈ fourM f p q → negL d ≠ d
def spLaw (K : PySem.W.Frag) : Sp := fun vs H Q _ => ∃ (a : Addr) (ns : List Int), vs = [.ref a] ∧ SqL K H a (ns.map V.int) ∧ ns.length ≤ 63 ∧ ∀ H', Q (.bl true) H'
section
variable {P : Program} {w : World} {K : PySem.W.Frag} {mg : Str → Option Value} {base : Heap} (T : Tx K mg)
include T
theorem fn_law (math : ∀ s p q, Dom s p q → LawOk s p q) {fd : FuncData} (F : FunD K d_law.name d_law.qual d_law.params d_law.body d_law.scope (d_law.dvs K) (d_law.kws K) (He.fAd K d_law.at_) fd) : FnOk P w K mg base CX0 13 (He.fAd K d_law.at_) fd ["_law_script"] (spLaw K) := by
  refine F.ok sc_law (fun vs H Q E h => ?_) (fun cdv Ar outer s H vs Q E hr h => ?_)
  · obtain ⟨a, ns, rfl, _⟩ := h
    rfl
  · obtain ⟨a, ns, rfl, hS, hl, q⟩ := h
    let X := (cxOf CX0 P w K mg base N_law d_law.qual (defScope st_law) (He.fAd K d_law.at_) cdv Ar outer s H E).nox
    let Gh : Gm := [some (.v (.d (li ns))), some .hd, none, none, none, none, none, none, none, none, none, none, none, none, none, none, none]
    let PT1 : O → Prop := fun o => match o with
      | .rt r => r = .d (.bool true)
      | _ => False
    let trest : TS := fun D σ H => ∃ h, tO (zx X (some h)) E0 Gh PT1 D σ H
    obtain ⟨fh, fdh, psh, Fh, hmh, hkh, hbh⟩ := c_law_hand T (P := P) (w := w) (base := base)
    refine ⟨tSeq (tAsg (tCall (spHd K) [] E0 (tCons (tVar 0) tNil)) (gName 1)) trest, PSs.nox (pss_cons ?_ ⟨fun pins s σ H D I ⟨h, q⟩ => PSs.run (t := tO (zx X (some h)) E0 Gh PT1) ?_ pins s σ H D I q⟩), ?_⟩
    · exact ps_set (X := X) sc_law.nd rfl (Or.inl rfl) (pe_call Fh (hr.mono (by decide)) rfl hmh hkh hbh .nil pass0 (pa_cons (pv 0) pa_nil))
    · refine s_cons (X := X) (s_unpackLR [2, 3] rfl (x_callH (X := X) 1 (c_law_case T) hr () xa_nil (by trivial)) (show PGs _ _ (gNs [2, 3]) from (pgs_cons (pg_name (i := 2) sc_law.nd rfl (Or.inl rfl)) (pgs_cons (pg_name (i := 3) sc_law.nd rfl (Or.inl rfl)) pgs_nil))) (fun y ⟨s', p, q, hD, e⟩ => ⟨_, e, rfl, ?_⟩))
      have L := math s' p q hD
      have DX := L.dx
      have sc1 : ∀ x ∈ s', 1 ≤ x ∧ x ≤ 60 := fun x hx => by
        have := hD.hs x hx
        omega
      refine s_re (X := X) [some (.v (.d (li ns))), some .hd, some (.v (.d (li s'))), some (.v (.d (ti [p, q]))), none, none, none, none, none, none, none, none, none, none, none, none, none] ?_
      refine s_cons (s_asg 4 sc_law.nd (x_box T (b_Box T) T.k_Box T.g_Box hr (x_var 2) hD.h3 sc1) ?_)
      refine s_cons (s_asgR (i := 5) sc_law.nd (x_callN (c_units T) hr (s', p, q) (xa_cons (x_var 2) (xa_cons (x_var 3) xa_nil)) (by exact L.uc)) (fun r hr0 => ?_))
      obtain ⟨kvs, hu, rfl⟩ := hr0
      refine s_re (X := X) [some (.v (.d (li ns))), some .hd, some (.v (.d (li s'))), some (.v (.d (ti [p, q]))), some (.v (bxV K s')), some (.v (.dc kvs)), none, none, none, none, none, none, none, none, none, none, none] ?_
      refine s_cons (s_asgR (i := 6) sc_law.nd (x_take 1 (c_take T) hr x_int (by decide)) (fun r hr0 => ?_))
      obtain ⟨f, ⟨f0, f6⟩, rfl⟩ := hr0
      have SR : ∀ r, RowD s' p q r → ∃ x y : Int × Int × Int × Int, (Pre s' p q ∧ OkR s' r ∧ OkR s' (backR r) ∧ Aft s' p q kvs r x.1 x.2.1 x.2.2.1 x.2.2.2 ∧ Aft s' p q kvs (backR r) y.1 y.2.1 y.2.2.1 y.2.2.2) := fun r h1 => by
        obtain ⟨b1, k1, b2, k2, A1⟩ := L.af kvs hu r h1
        obtain ⟨c1, l1, c2, l2, A2⟩ := L.af kvs hu (backR r) (L.bk r h1)
        exact ⟨(b1, k1, b2, k2), (c1, l1, c2, l2), DX.pre, okR_of DX h1, okR_of DX (L.bk r h1), A1, A2⟩
      let Gp : List (Option Slt) → Gm := fun os => [some (.v (.d (li ns))), some .hd, some (.v (.d (li s'))), some (.v (.d (ti [p, q]))), some (.v (bxV K s')), some (.v (.dc kvs)), some (.v (.d (.int f)))] ++ os
      let d3 : List Int := (fourM f p q).getD 3 []
      refine s_re (X := X) [some (.v (.d (li ns))), some .hd, some (.v (.d (li s'))), some (.v (.d (ti [p, q]))), some (.v (bxV K s')), some (.v (.dc kvs)), some (.v (.d (.int f))), none, none, none, none, none, none, none, none, none, none] ?_
      refine s_cons (s_for 7 (fun i G => ∃ o7 o8 o9, (i = 4 → o7 = some (.v (.d (ti d3)))) ∧ G = [some (.v (.d (li ns))), some .hd, some (.v (.d (li s'))), some (.v (.d (ti [p, q]))), some (.v (bxV K s')), some (.v (.dc kvs)), some (.v (.d (.int f))), o7, o8, o9, none, none, none, none, none, none, none]) PassesOwn.never rfl (wlk_gl ti []) sc_law.nd (p_lst (x_call (c_law_four T) hr (f, p, q) (xa_cons (x_var 6) (xa_cons (x_var 3) xa_nil)) (by exact ⟨f0, f6⟩))) ?_ ?_ ?_ ?_)
      · intro i G hG
        obtain ⟨o7, o8, o9, _, rfl⟩ := hG
        exact Nat.le_of_ble_eq_true rfl
      · exact ⟨none, none, none, fun z => (by cases z), rfl⟩
      · intro i G hi hG
        obtain ⟨o7, o8, o9, _, rfl⟩ := hG
        have hi : i < 4 := hi
        have hd := @at_four f p q i hi
        have e3 : i + 1 = 4 → (fourM f p q).getD i [] = d3 := fun z => by
          have : i = 3 := by omega
          rw [this]
        obtain ⟨pr, hdir, e1, e2, hlt, hbd⟩ := DX.all f _ f0 f6 hd
        generalize (fourM f p q).getD i [] = d at *
        have pr0 := pr
        generalize em : lstMin (toldM s' f d) = least at *
        generalize eM : lstMax (toldM s' f d) = greatest at *
        refine s_re (X := X) [some (.v (.d (li ns))), some .hd, some (.v (.d (li s'))), some (.v (.d (ti [p, q]))), some (.v (bxV K s')), some (.v (.dc kvs)), some (.v (.d (.int f))), some (.v (.d (ti d))), o8, o9, none, none, none, none, none, none, none] ?_
        refine s_cons (s_asg 8 (r := .d (ti [least, greatest])) sc_law.nd (x_callO (c_sideways_range T) hr (s', .int f, li d, true, d) (xa_cons (x_var 4) (xa_cons (x_var 6) (xa_cons (x_n (n_list T.f_list false PyProof.Rows.boot_list (x_var 7))) xa_nil))) (by exact ⟨hD.h3, fun _ => ⟨rfl, pr.hB.mono (by decide)⟩⟩) (by
          show rzO K _ (rngR s' (.int f) d) = _
          unfold rngR
          rw [hdir]
          show O.rt (.d (.tuple [.int (lstMin (rngL s' f d)), .int (lstMax (rngL s' f d))])) = _
          rw [e1, e2]
          rfl)) ?_)
        refine s_cons (s_if (Rc := fun k => k = false) (tdt_mono (w_or (k := false) (tdt_mono (t_not (t_v (x_call (c_tuples1 T) hr [least, greatest] (xa_cons (x_var 8) xa_nil) (by show 2 ≤ 1000; decide)))) (fun k h => h)) (fun _ => w_or1 (tdt_mono (t_neD hr (x_var 8) (x_eq (x_call (c_law_range T) hr (s', f, d) (xa_cons (x_var 2) (xa_cons (x_var 6) (xa_cons (x_var 7) xa_nil))) (by exact ⟨DX.pre.h3, DX.pre.hs, f0, f6, pr.hd, pr.hB.mono (by decide)⟩)) (r' := .d (ti [least, greatest])) (by show VD.d (.tuple [.int (lstMin (toldM s' f d)), .int (lstMax (toldM s' f d))]) = _; rw [em, eM]; rfl)) shaped_ti shaped_ti) (fun k h => by rw [h, eqv_self shaped_ti]; rfl)))).pt (fun k h => h)) (fun h => by cases h) (fun _ => s_nil ?_))
        refine s_re (X := X) [some (.v (.d (li ns))), some .hd, some (.v (.d (li s'))), some (.v (.d (ti [p, q]))), some (.v (bxV K s')), some (.v (.dc kvs)), some (.v (.d (.int f))), some (.v (.d (ti d))), some (.v (.d (ti [least, greatest]))), o9, none, none, none, none, none, none, none] ?_
        have hf4 : d ∈ fourM f p q := by assumption
        refine s_one (s_for 9 (fun k G => ∃ o9, G = [some (.v (.d (li ns))), some .hd, some (.v (.d (li s'))), some (.v (.d (ti [p, q]))), some (.v (bxV K s')), some (.v (.dc kvs)), some (.v (.d (.int f))), some (.v (.d (ti d))), some (.v (.d (ti [least, greatest]))), o9, none, none, none, none, none, none, none]) PassesOwn.never rfl (wlk_rng2 (lo := least) (hi := greatest) (by omega)) sc_law.nd (p_rng2 T.f_range (x_ix (z := .int least) (x_var 8) x_int (by rfl)) (x_ix (z := .int greatest) (x_var 8) x_int (by rfl))) ?_ ?_ ?_ ?_)
        · intro k G hG
          obtain ⟨o9, rfl⟩ := hG
          exact Nat.le_of_ble_eq_true rfl
        · exact ⟨o9, rfl⟩
        · intro k G hk hG
          obtain ⟨o9, rfl⟩ := hG
          have hk : k < (greatest - least).toNat := hk
          generalize el : least + (k : Int) = lo
          obtain ⟨x, y, hSR⟩ := SR (f, d, lo, lo + 1) ⟨f0, f6, hf4, by show lstMin (toldM s' f d) ≤ lo; omega, by show lo < lo + 1; omega, by show lo + 1 ≤ lstMax (toldM s' f d); omega⟩
          refine s_re (X := X) [some (.v (.d (li ns))), some .hd, some (.v (.d (li s'))), some (.v (.d (ti [p, q]))), some (.v (bxV K s')), some (.v (.dc kvs)), some (.v (.d (.int f))), some (.v (.d (ti d))), some (.v (.d (ti [least, greatest]))), some (.v (.d (.int lo))), none, none, none, none, none, none, none] ?_
          exact s_one (s_if (Rc := fun k => k = false) (tdt_mono (t_not (t_v (x_call (c_steps_right T) hr ((s', p, q, kvs), (f, d, lo, lo + 1), x, y) (xa_cons (x_var 4) (xa_cons (x_var 2) (xa_cons (x_var 3) (xa_cons (x_var 5) (xa_cons (x_tup (xp_cons (x_var 6) (xp_cons (x_var 7) (xp_cons (x_var 9) (xp_cons (x_add (x_var 9) x_int) xp_nil))))) xa_nil))))) (by exact hSR)))) (fun k h => h)) (fun h => by cases h) (fun _ => s_nil ⟨_, rfl⟩))
        · intro G hG
          obtain ⟨o9, rfl⟩ := hG
          exact ⟨_, _, _, fun z => by rw [← e3 z], rfl⟩
      · intro G hG
        obtain ⟨o7, o8, o9, h7, rfl⟩ := hG
        have e7 := h7 rfl
        subst e7
        clear h7
        refine s_cons (s_for 10 (fun i G => ∃ o8 o9 o10 o11 o12 o13, (i = 8 → ∃ r, RowD s' p q r ∧ o11 = some (.v (.d (rowD r)))) ∧ G = [some (.v (.d (li ns))), some .hd, some (.v (.d (li s'))), some (.v (.d (ti [p, q]))), some (.v (bxV K s')), some (.v (.dc kvs)), some (.v (.d (.int f))), some (.v (.d (ti d3))), o8, o9, o10, o11, o12, o13, none, none, none]) PassesOwn.never rfl (wlk_rng1 (by omega)) sc_law.nd (p_rng1 T.f_range x_int) ?_ ?_ ?_ ?_)
        · intro i G hG
          obtain ⟨o8, o9, o10, o11, o12, o13, _, rfl⟩ := hG
          exact Nat.le_of_ble_eq_true rfl
        · exact ⟨o8, o9, none, none, none, none, fun z => (by cases z), rfl⟩
        · intro i G hi hG
          obtain ⟨o8, o9, o10, o11, o12, o13, _, rfl⟩ := hG
          generalize et : (0 : Int) + (i : Int) = turn
          refine s_re (X := X) [some (.v (.d (li ns))), some .hd, some (.v (.d (li s'))), some (.v (.d (ti [p, q]))), some (.v (bxV K s')), some (.v (.dc kvs)), some (.v (.d (.int f))), some (.v (.d (ti d3))), o8, o9, some (.v (.d (.int turn))), o11, o12, o13, none, none, none] ?_
          refine s_cons (s_asgR (i := 11) sc_law.nd (x_callH (X := X) 1 (c_some_strip T) hr (s', p, q) (xa_cons (x_var 2) (xa_cons (x_var 3) xa_nil)) (by exact DX)) (fun y hy => ?_))
          obtain ⟨r, hr1, rfl⟩ := hy
          obtain ⟨x, y, hSR⟩ := SR r hr1
          have ok := okR_of DX hr1
          have dl : r.2.1.length ≤ 1000 := by
            rw [ok.pr.hd]
            decide
          have cs : s'.length = 3 ∧ (wholeD (.int r.1) 0 5 = true → li r.2.1 = seqD true (r.2.1.map PyData.int) ∧ Bd 10000 r.2.1) := ⟨hD.h3, fun _ => ⟨rfl, ok.pr.hB.mono (by decide)⟩⟩
          refine s_re (X := X) [some (.v (.d (li ns))), some .hd, some (.v (.d (li s'))), some (.v (.d (ti [p, q]))), some (.v (bxV K s')), some (.v (.dc kvs)), some (.v (.d (.int f))), some (.v (.d (ti d3))), o8, o9, some (.v (.d (.int turn))), some (.v (.d (rowD r))), o12, o13, none, none, none] ?_
          refine s_cons (s_if (Rc := fun k => k = false) (tdt_mono (t_not (t_v (x_call (c_steps_right T) hr ((s', p, q, kvs), r, x, y) (xa_cons (x_var 4) (xa_cons (x_var 2) (xa_cons (x_var 3) (xa_cons (x_var 5) (xa_cons (x_var 11) xa_nil))))) (by exact hSR)))) (fun k h => h)) (fun h => by cases h) (fun _ => s_nil ?_))
          refine s_cons (s_if (Rc := fun k => k = false) (tdt_mono (t_neD hr (x_call (c_law_strip_row T) hr r (xa_cons (x_callO (c_check_strip T) hr (s', .int r.1, li r.2.1, .int r.2.2.1, .int r.2.2.2, true, r.2.1) (r := stR K r) (xa_cons (x_var 4) (xa_cons (x_make (k_Strip T) hr (ds := [.int r.1, li r.2.1, .int r.2.2.1, .int r.2.2.2]) (xp_cons (x_ix (z := .int r.1) (x_var 11) x_int (by rfl)) (xp_cons (x_n (n_list T.f_list false PyProof.Rows.boot_list (x_ix (z := ti r.2.1) (x_var 11) x_int (by rfl)))) (xp_cons (x_ix (z := .int r.2.2.1) (x_var 11) x_int (by rfl)) (xp_cons (x_ix (z := .int r.2.2.2) (x_var 11) x_int (by rfl)) xp_nil))))) xa_nil)) (by exact cs) (by exact congrArg (rzO K (stR K)) ok.ck)) xa_nil) (by exact dl)) (x_var 11) (shaped_row r) (shaped_row r)) (fun k h => by rw [h, eqv_self (shaped_row r)]; rfl)) (fun h => by cases h) (fun _ => s_nil ?_))
          refine s_cons (s_unpack2 12 13 rfl (x_callH (X := X) 1 (c_spoilt T) hr (s', p, q, r) (xa_cons (x_var 2) (xa_cons (x_var 11) xa_nil)) (by exact ⟨DX, hr1⟩)) (show PGs _ _ (gNs [12, 13]) from (pgs_cons (pg_name (i := 12) sc_law.nd rfl (Or.inl rfl)) (pgs_cons (pg_name (i := 13) sc_law.nd rfl (Or.inl rfl)) pgs_nil))) (fun y ⟨fd', dd, lo, hi, due, hsp, e⟩ => ⟨_, _, _, e, ?_⟩))
          have hdue : SeqAt.shaped due = true := by
            obtain ⟨_, _, _, _, _, _, _, _, h⟩ := hsp.ex
            exact h
          refine s_re (X := X) [some (.v (.d (li ns))), some .hd, some (.v (.d (li s'))), some (.v (.d (ti [p, q]))), some (.v (bxV K s')), some (.v (.dc kvs)), some (.v (.d (.int f))), some (.v (.d (ti d3))), o8, o9, some (.v (.d (.int turn))), some (.v (.d (rowD r))), some (.v (stV K fd' dd lo hi)), some (.v (.d due)), none, none, none] ?_
          refine s_cons (s_if (Rc := fun k => k = false) (tdt_mono (t_neD hr (x_call (c_refused_bad T) hr (s', turn % 4, fd', dd, lo, hi, due) (xa_cons (x_var 4) (xa_cons (x_var 12) (xa_cons (x_mod (x_int1 T.f_int PyProof.Rows.boot_int (x_var 10)) x_int (by decide)) xa_nil))) (by exact ⟨hD.h3, hsp⟩)) (x_var 13) hdue hdue) (fun k h => by rw [h, eqv_self hdue]; rfl)) (fun h => by cases h) (fun _ => s_nil ?_))
          refine s_one (s_if (Rc := fun k => k = false) (tdt_mono (w_and (l := false) (t_neI (x_mod (x_int1 T.f_int PyProof.Rows.boot_int (x_var 10)) x_int (by decide)) x_int) (fun h => w_and1 (tdt_mono (t_neD hr (x_call (c_refused_ok T) hr (s', turn % 4, r) (xa_cons (x_var 4) (xa_cons (x_call (c_law_as_strip T) hr r (xa_cons (x_var 11) xa_nil) (by trivial)) (xa_cons (x_mod (x_int1 T.f_int PyProof.Rows.boot_int (x_var 10)) x_int (by decide)) xa_nil))) (by
            have h : (!decide (turn % 4 = 2)) = true := h
            have h2 : turn % 4 ≠ 2 := fun z => by
              rw [decide_eq_true z] at h
              cases h
            exact ⟨hD.h3, ok, by show turn % 4 = 0 ∨ turn % 4 = 1 ∨ turn % 4 = 3; omega⟩)) (x_str (s := "done")) sh_done sh_done) (fun k h => by rw [h, eqv_self sh_done]; rfl)))).pt (fun k h => by rw [h, Bool.and_false])) (fun h => by cases h) (fun _ => s_nil ⟨_, _, _, _, _, _, fun _ => ⟨r, hr1, rfl⟩, rfl⟩))
        · intro G hG
          obtain ⟨o8, o9, o10, o11, o12, o13, h11, rfl⟩ := hG
          obtain ⟨r, hr1, e11⟩ := h11 rfl
          subst e11
          clear h11
          have h3m : d3 ∈ fourM f p q := @at_four f p q 3 (by decide)
          obtain ⟨pr, hdir, _, _, _, _⟩ := DX.all f _ f0 f6 h3m
          have ok := okR_of DX hr1
          have dl : r.2.1.length ≤ 1000 := by
            rw [ok.pr.hd]
            decide
          have hlen : d3.length = 3 := pr.hd
          have hB3 : Bd 1000 d3 := pr.hB.mono (by decide)
          have hng := L.ng r.1 r.2.1 hr1.f0 hr1.f6 hr1.d4
          generalize d3 = d at *
          refine s_cons (s_asgR (i := 14) (R := fun z => ∃ b, (b = .int 6 ∨ b = .none ∨ b = .bool true ∨ b = .int (-1)) ∧ z = .d b) sc_law.nd (x_ixG (x_lst (ds := [.int 6, .none, .bool true, .int (-1)]) (xp_cons x_int (xp_cons x_non (xp_cons x_bl (xp_cons (x_neg x_int) xp_nil))))) (x_take 1 (c_take T) hr x_int (by decide)) ?_) ?_)
          · intro x y e1 e2
            obtain ⟨k, ⟨k0, k4⟩, rfl⟩ := e2
            subst e1
            have : k = 0 ∨ k = 1 ∨ k = 2 ∨ k = 3 := by omega
            rcases this with rfl | rfl | rfl | rfl
            · exact ⟨_, _, _, rfl, rfl, rfl, _, .inl rfl, rfl⟩
            · exact ⟨_, _, _, rfl, rfl, rfl, _, .inr (.inl rfl), rfl⟩
            · exact ⟨_, _, _, rfl, rfl, rfl, _, .inr (.inr (.inl rfl)), rfl⟩
            · exact ⟨_, _, _, rfl, rfl, rfl, _, .inr (.inr (.inr rfl)), rfl⟩
          intro z hz
          obtain ⟨b, hb, rfl⟩ := hz
          refine s_re (X := X) [some (.v (.d (li ns))), some .hd, some (.v (.d (li s'))), some (.v (.d (ti [p, q]))), some (.v (bxV K s')), some (.v (.dc kvs)), some (.v (.d (.int f))), some (.v (.d (ti d))), o8, o9, o10, some (.v (.d (rowD r))), o12, o13, some (.v (.d b)), none, none] ?_
          refine s_cons (s_asgN 15 sc_law.nd (n_list T.f_list false PyProof.Rows.boot_list (x_var 7)) ?_)
          intro ds e
          subst e
          refine s_re (X := X) [some (.v (.d (li ns))), some .hd, some (.v (.d (li s'))), some (.v (.d (ti [p, q]))), some (.v (bxV K s')), some (.v (.dc kvs)), some (.v (.d (.int f))), some (.v (.d (ti d))), o8, o9, o10, some (.v (.d (rowD r))), o12, o13, some (.v (.d b)), some (.mu (d.map PyData.int)), none] ?_
          refine s_cons (s_setII 15 d x_int (x_fdiv (x_var 6) x_int (by decide)) ⟨by omega, by omega⟩ ?_)
          refine s_re (X := X) [some (.v (.d (li ns))), some .hd, some (.v (.d (li s'))), some (.v (.d (ti [p, q]))), some (.v (bxV K s')), some (.v (.dc kvs)), some (.v (.d (.int f))), some (.v (.d (ti d))), o8, o9, o10, some (.v (.d (rowD r))), o12, o13, some (.v (.d b)), some (.mu ((d.set (f / 2).toNat 1).map PyData.int)), none] ?_
          refine s_freeze 15 ?_
          refine s_re (X := X) [some (.v (.d (li ns))), some .hd, some (.v (.d (li s'))), some (.v (.d (ti [p, q]))), some (.v (bxV K s')), some (.v (.dc kvs)), some (.v (.d (.int f))), some (.v (.d (ti d))), o8, o9, o10, some (.v (.d (rowD r))), o12, o13, some (.v (.d b)), some (.v (.d (li (d.set (f / 2).toNat 1)))), none] ?_
          have hw : wholeD b 0 5 = false := by rcases hb with rfl | rfl | rfl | rfl <;> rfl
          have hsb : SeqAt.shaped (.tuple [.str "face", b]) = true := by rcases hb with rfl | rfl | rfl | rfl <;> decide +kernel
          obtain ⟨B1, D1⟩ := bad_st (r := 0) (k := 1) f0 f6 hdir hB3 (by decide) (by decide) (by decide) (by decide)
          obtain ⟨B2, D2⟩ := bad_st (r := 0) (k := 2) f0 f6 hdir hB3 (by decide) (by decide) (by decide) (by decide)
          have P1 : s'.length = 3 ∧ (wholeD b 0 5 = true → PyData.none = seqD false (([] : List Int).map PyData.int) ∧ Bd 10000 []) ∧ ∃ c g x, dirR b [] = .no c g x ∧ Due2 c g x (.tuple [.str "face", b]) := ⟨hD.h3, fun z => by rw [hw] at z; (cases z), _, _, _, by unfold dirR; rw [if_neg (by rw [hw]; decide)], .inl ⟨rfl, rfl, rfl⟩⟩
          have P2 : s'.length = 3 ∧ (wholeD (.int f) 0 5 = true → ti (d.set (f / 2).toNat 1) = seqD false ((d.set (f / 2).toNat 1).map PyData.int) ∧ Bd 10000 (d.set (f / 2).toNat 1)) ∧ ∃ c g x, dirR (.int f) (d.set (f / 2).toNat 1) = .no c g x ∧ Due2 c g x (.tuple [.str "direction", .str "axis"]) := ⟨hD.h3, fun _ => ⟨rfl, B1⟩, _, _, _, D1, .inr ⟨rfl, rfl, rfl⟩⟩
          have P3 : s'.length = 3 ∧ (wholeD (.int f) 0 5 = true → ti [0, 0, 0] = seqD false (([0, 0, 0] : List Int).map PyData.int) ∧ Bd 10000 [0, 0, 0]) ∧ ∃ c g x, dirR (.int f) [0, 0, 0] = .no c g x ∧ Due2 c g x (.tuple [.str "direction", .str "both"]) := ⟨hD.h3, fun _ => ⟨rfl, B2⟩, _, _, _, D2, .inr ⟨rfl, rfl, rfl⟩⟩
          let wds : List PyData := [.tuple [.str "face", b], .tuple [.str "direction", .str "axis"], .tuple [.str "direction", .str "both"]]
          have hsw : SeqAt.shaped (.list wds) = true := by rcases hb with rfl | rfl | rfl | rfl <;> decide +kernel
          refine s_cons (s_asg 16 (r := .d (.list wds)) sc_law.nd (x_lst (xp_cons (x_call (c_range_refused T) hr (s', b, .none, false, [], .tuple [.str "face", b]) (xa_cons (x_var 4) (xa_cons (x_var 14) (xa_cons x_non xa_nil))) (by exact P1)) (xp_cons (x_call (c_range_refused T) hr (s', .int f, ti (d.set (f / 2).toNat 1), false, d.set (f / 2).toNat 1, .tuple [.str "direction", .str "axis"]) (xa_cons (x_var 4) (xa_cons (x_var 6) (xa_cons (x_tupL T.f_tuple PyProof.Rows.boot_tuple (x_var 15)) xa_nil))) (by exact P2)) (xp_cons (x_call (c_range_refused T) hr (s', .int f, ti [0, 0, 0], false, [0, 0, 0], .tuple [.str "direction", .str "both"]) (xa_cons (x_var 4) (xa_cons (x_var 6) (xa_cons (x_tup (ds := [.int 0, .int 0, .int 0]) (xp_cons x_int (xp_cons x_int (xp_cons x_int xp_nil)))) xa_nil))) (by exact P3)) xp_nil))) (by show 3 ≤ 1000; decide)) ?_)
          refine s_re (X := X) [some (.v (.d (li ns))), some .hd, some (.v (.d (li s'))), some (.v (.d (ti [p, q]))), some (.v (bxV K s')), some (.v (.dc kvs)), some (.v (.d (.int f))), some (.v (.d (ti d))), o8, o9, o10, some (.v (.d (rowD r))), o12, o13, some (.v (.d b)), some (.v (.d (li (d.set (f / 2).toNat 1)))), some (.v (.d (.list wds)))] ?_
          exact s_one (s_ret (x_and (k := true) (l := true) (x_mono (x_eqD hr (x_var 16) (x_lst (ds := wds) (xp_cons (x_tup (xp_cons x_str (xp_cons (x_var 14) xp_nil))) (xp_cons (x_tup (xp_cons x_str (xp_cons x_str xp_nil))) (xp_cons (x_tup (xp_cons x_str (xp_cons x_str xp_nil))) xp_nil))) (by show 3 ≤ 1000; decide)) hsw hsw) (fun z e => by rw [e, eqv_self hsw])) (fun _ => x_one (x_call (c_equal_right T) hr r (xa_cons (x_var 11) xa_nil) (by exact ⟨dl, hng⟩)))) rfl)
    · refine ⟨.ref a, rfl, ?_⟩
      refine ⟨a, ns, H, rfl, Same.refl H, Dp.lst hS (dpall_of_ints2 ns), hl, fun h B' H' g hh => ?_⟩
      refine ⟨h, H, H, B', ?_, ⟨fun G s b h hp => hp.elim, fun r v b h hp g hM hv => ?_, fun G s b h hp => hp.elim, fun G s b h hp => hp.elim, fun C f x v d b h hp => hp.elim⟩⟩
      · have key : ∀ (i : Nat) (s : Slt), Gh[i]? = some (some s) → (i = 0 ∧ s = .v (.d (li ns))) ∨ (i = 1 ∧ s = .hd) := fun i s e => by
          match i, e with
          | 0, e =>
            cases e
            exact .inl ⟨rfl, rfl⟩
          | 1, e =>
            cases e
            exact .inr ⟨rfl, rfl⟩
          | i + 2, e =>
            have e : (List.replicate 15 (none : Option Slt))[i]? = some (some s) := e
            obtain ⟨_, h2⟩ := List.getElem?_eq_some_iff.mp e
            rw [List.getElem_replicate] at h2
            cases h2
        refine ⟨g.lift, fun c e => ?_, rfl, fun i s e => ?_, fun i j s t x e1 e2 o1 o2 _ _ => ?_⟩
        · have e := Option.some.inj e
          subst e
          exact hh
        · rcases key i s e with ⟨rfl, rfl⟩ | ⟨rfl, rfl⟩
          · exact ⟨.ref a, rfl, dp_mono g.bb _ _ (Dp.lst hS (dpall_of_ints2 ns))⟩
          · exact ⟨.ref h, rfl, h, rfl, rfl⟩
        · rcases key i s e1 with ⟨rfl, rfl⟩ | ⟨rfl, rfl⟩ <;> cases o1
      · have hp : r = .d (.bool true) := hp
        subst hp
        rw [show v = V.bl true from dpb hv]
        exact q h
end
end K27
set_option maxHeartbeats 4000000
/-! The ends of the edges, face by face. -/
namespace K27
theorem len3 {l : List Int} (h : l.length = 3) : ∃ a b c, l = [a, b, c] := by
  match l, h with
  | [a, b, c], _ => exact ⟨a, b, c, rfl⟩
section
variable (A B C x y z : Int)
theorem end0_02 : end0 [A, B, C] 0 2 [x, y, z] = 0 := by
  show z * 0 - y * 0 = _
  simp only [Int.mul_zero, Int.sub_zero, Int.zero_sub, Int.neg_zero]
theorem end1_02 : end1 [A, B, C] 0 2 [x, y, z] = -(y * C) := by
  show z * 0 - y * C = _
  simp only [Int.mul_zero, Int.sub_zero, Int.zero_sub, Int.neg_zero]
theorem end0_03 : end0 [A, B, C] 0 3 [x, y, z] = z * B := by
  show z * B - y * 0 = _
  simp only [Int.mul_zero, Int.sub_zero, Int.zero_sub, Int.neg_zero]
theorem end1_03 : end1 [A, B, C] 0 3 [x, y, z] = z * B - y * C := rfl
theorem end0_04 : end0 [A, B, C] 0 4 [x, y, z] = 0 := by
  show z * 0 - y * 0 = _
  simp only [Int.mul_zero, Int.sub_zero, Int.zero_sub, Int.neg_zero]
theorem end1_04 : end1 [A, B, C] 0 4 [x, y, z] = z * B := by
  show z * B - y * 0 = _
  simp only [Int.mul_zero, Int.sub_zero, Int.zero_sub, Int.neg_zero]
theorem end0_05 : end0 [A, B, C] 0 5 [x, y, z] = -(y * C) := by
  show z * 0 - y * C = _
  simp only [Int.mul_zero, Int.sub_zero, Int.zero_sub, Int.neg_zero]
theorem end1_05 : end1 [A, B, C] 0 5 [x, y, z] = z * B - y * C := rfl
theorem gone_02 : goneM 0 2 [x, y, z] = [-y, 0, z] := rfl
theorem gone_03 : goneM 0 3 [x, y, z] = [y, 0, z] := rfl
theorem gone_04 : goneM 0 4 [x, y, z] = [-z, y, 0] := rfl
theorem gone_05 : goneM 0 5 [x, y, z] = [z, y, 0] := rfl
theorem end0_12 : end0 [A, B, C] 1 2 [x, y, z] = 0 := by
  show y * 0 - z * 0 = _
  simp only [Int.mul_zero, Int.sub_zero, Int.zero_sub, Int.neg_zero]
theorem end1_12 : end1 [A, B, C] 1 2 [x, y, z] = y * C := by
  show y * C - z * 0 = _
  simp only [Int.mul_zero, Int.sub_zero, Int.zero_sub, Int.neg_zero]
theorem end0_13 : end0 [A, B, C] 1 3 [x, y, z] = -(z * B) := by
  show y * 0 - z * B = _
  simp only [Int.mul_zero, Int.sub_zero, Int.zero_sub, Int.neg_zero]
theorem end1_13 : end1 [A, B, C] 1 3 [x, y, z] = y * C - z * B := rfl
theorem end0_14 : end0 [A, B, C] 1 4 [x, y, z] = 0 := by
  show y * 0 - z * 0 = _
  simp only [Int.mul_zero, Int.sub_zero, Int.zero_sub, Int.neg_zero]
theorem end1_14 : end1 [A, B, C] 1 4 [x, y, z] = -(z * B) := by
  show y * 0 - z * B = _
  simp only [Int.mul_zero, Int.sub_zero, Int.zero_sub, Int.neg_zero]
theorem end0_15 : end0 [A, B, C] 1 5 [x, y, z] = y * C := by
  show y * C - z * 0 = _
  simp only [Int.mul_zero, Int.sub_zero, Int.zero_sub, Int.neg_zero]
theorem end1_15 : end1 [A, B, C] 1 5 [x, y, z] = y * C - z * B := rfl
theorem gone_12 : goneM 1 2 [x, y, z] = [-(-y), 0, z] := rfl
theorem gone_13 : goneM 1 3 [x, y, z] = [-y, 0, z] := rfl
theorem gone_14 : goneM 1 4 [x, y, z] = [-(-z), y, 0] := rfl
theorem gone_15 : goneM 1 5 [x, y, z] = [-z, y, 0] := rfl
theorem end0_20 : end0 [A, B, C] 2 0 [x, y, z] = 0 := by
  show x * 0 - z * 0 = _
  simp only [Int.mul_zero, Int.sub_zero, Int.zero_sub, Int.neg_zero]
theorem end1_20 : end1 [A, B, C] 2 0 [x, y, z] = x * C := by
  show x * C - z * 0 = _
  simp only [Int.mul_zero, Int.sub_zero, Int.zero_sub, Int.neg_zero]
theorem end0_21 : end0 [A, B, C] 2 1 [x, y, z] = -(z * A) := by
  show x * 0 - z * A = _
  simp only [Int.mul_zero, Int.sub_zero, Int.zero_sub, Int.neg_zero]
theorem end1_21 : end1 [A, B, C] 2 1 [x, y, z] = x * C - z * A := rfl
theorem end0_24 : end0 [A, B, C] 2 4 [x, y, z] = 0 := by
  show x * 0 - z * 0 = _
  simp only [Int.mul_zero, Int.sub_zero, Int.zero_sub, Int.neg_zero]
theorem end1_24 : end1 [A, B, C] 2 4 [x, y, z] = -(z * A) := by
  show x * 0 - z * A = _
  simp only [Int.mul_zero, Int.sub_zero, Int.zero_sub, Int.neg_zero]
theorem end0_25 : end0 [A, B, C] 2 5 [x, y, z] = x * C := by
  show x * C - z * 0 = _
  simp only [Int.mul_zero, Int.sub_zero, Int.zero_sub, Int.neg_zero]
theorem end1_25 : end1 [A, B, C] 2 5 [x, y, z] = x * C - z * A := rfl
theorem gone_20 : goneM 2 0 [x, y, z] = [0, -x, z] := rfl
theorem gone_21 : goneM 2 1 [x, y, z] = [0, x, z] := rfl
theorem gone_24 : goneM 2 4 [x, y, z] = [x, -z, 0] := rfl
theorem gone_25 : goneM 2 5 [x, y, z] = [x, z, 0] := rfl
theorem end0_30 : end0 [A, B, C] 3 0 [x, y, z] = 0 := by
  show z * 0 - x * 0 = _
  simp only [Int.mul_zero, Int.sub_zero, Int.zero_sub, Int.neg_zero]
theorem end1_30 : end1 [A, B, C] 3 0 [x, y, z] = -(x * C) := by
  show z * 0 - x * C = _
  simp only [Int.mul_zero, Int.sub_zero, Int.zero_sub, Int.neg_zero]
theorem end0_31 : end0 [A, B, C] 3 1 [x, y, z] = z * A := by
  show z * A - x * 0 = _
  simp only [Int.mul_zero, Int.sub_zero, Int.zero_sub, Int.neg_zero]
theorem end1_31 : end1 [A, B, C] 3 1 [x, y, z] = z * A - x * C := rfl
theorem end0_34 : end0 [A, B, C] 3 4 [x, y, z] = 0 := by
  show z * 0 - x * 0 = _
  simp only [Int.mul_zero, Int.sub_zero, Int.zero_sub, Int.neg_zero]
theorem end1_34 : end1 [A, B, C] 3 4 [x, y, z] = z * A := by
  show z * A - x * 0 = _
  simp only [Int.mul_zero, Int.sub_zero, Int.zero_sub, Int.neg_zero]
theorem end0_35 : end0 [A, B, C] 3 5 [x, y, z] = -(x * C) := by
  show z * 0 - x * C = _
  simp only [Int.mul_zero, Int.sub_zero, Int.zero_sub, Int.neg_zero]
theorem end1_35 : end1 [A, B, C] 3 5 [x, y, z] = z * A - x * C := rfl
theorem gone_30 : goneM 3 0 [x, y, z] = [0, -(-x), z] := rfl
theorem gone_31 : goneM 3 1 [x, y, z] = [0, -x, z] := rfl
theorem gone_34 : goneM 3 4 [x, y, z] = [x, -(-z), 0] := rfl
theorem gone_35 : goneM 3 5 [x, y, z] = [x, -z, 0] := rfl
theorem end0_40 : end0 [A, B, C] 4 0 [x, y, z] = 0 := by
  show y * 0 - x * 0 = _
  simp only [Int.mul_zero, Int.sub_zero, Int.zero_sub, Int.neg_zero]
theorem end1_40 : end1 [A, B, C] 4 0 [x, y, z] = -(x * B) := by
  show y * 0 - x * B = _
  simp only [Int.mul_zero, Int.sub_zero, Int.zero_sub, Int.neg_zero]
theorem end0_41 : end0 [A, B, C] 4 1 [x, y, z] = y * A := by
  show y * A - x * 0 = _
  simp only [Int.mul_zero, Int.sub_zero, Int.zero_sub, Int.neg_zero]
theorem end1_41 : end1 [A, B, C] 4 1 [x, y, z] = y * A - x * B := rfl
theorem end0_42 : end0 [A, B, C] 4 2 [x, y, z] = 0 := by
  show y * 0 - x * 0 = _
  simp only [Int.mul_zero, Int.sub_zero, Int.zero_sub, Int.neg_zero]
theorem end1_42 : end1 [A, B, C] 4 2 [x, y, z] = y * A := by
  show y * A - x * 0 = _
  simp only [Int.mul_zero, Int.sub_zero, Int.zero_sub, Int.neg_zero]
theorem end0_43 : end0 [A, B, C] 4 3 [x, y, z] = -(x * B) := by
  show y * 0 - x * B = _
  simp only [Int.mul_zero, Int.sub_zero, Int.zero_sub, Int.neg_zero]
theorem end1_43 : end1 [A, B, C] 4 3 [x, y, z] = y * A - x * B := rfl
theorem gone_40 : goneM 4 0 [x, y, z] = [0, y, -x] := rfl
theorem gone_41 : goneM 4 1 [x, y, z] = [0, y, x] := rfl
theorem gone_42 : goneM 4 2 [x, y, z] = [x, 0, -y] := rfl
theorem gone_43 : goneM 4 3 [x, y, z] = [x, 0, y] := rfl
theorem end0_50 : end0 [A, B, C] 5 0 [x, y, z] = 0 := by
  show x * 0 - y * 0 = _
  simp only [Int.mul_zero, Int.sub_zero, Int.zero_sub, Int.neg_zero]
theorem end1_50 : end1 [A, B, C] 5 0 [x, y, z] = x * B := by
  show x * B - y * 0 = _
  simp only [Int.mul_zero, Int.sub_zero, Int.zero_sub, Int.neg_zero]
theorem end0_51 : end0 [A, B, C] 5 1 [x, y, z] = -(y * A) := by
  show x * 0 - y * A = _
  simp only [Int.mul_zero, Int.sub_zero, Int.zero_sub, Int.neg_zero]
theorem end1_51 : end1 [A, B, C] 5 1 [x, y, z] = x * B - y * A := rfl
theorem end0_52 : end0 [A, B, C] 5 2 [x, y, z] = 0 := by
  show x * 0 - y * 0 = _
  simp only [Int.mul_zero, Int.sub_zero, Int.zero_sub, Int.neg_zero]
theorem end1_52 : end1 [A, B, C] 5 2 [x, y, z] = -(y * A) := by
  show x * 0 - y * A = _
  simp only [Int.mul_zero, Int.sub_zero, Int.zero_sub, Int.neg_zero]
theorem end0_53 : end0 [A, B, C] 5 3 [x, y, z] = x * B := by
  show x * B - y * 0 = _
  simp only [Int.mul_zero, Int.sub_zero, Int.zero_sub, Int.neg_zero]
theorem end1_53 : end1 [A, B, C] 5 3 [x, y, z] = x * B - y * A := rfl
theorem gone_50 : goneM 5 0 [x, y, z] = [0, y, -(-x)] := rfl
theorem gone_51 : goneM 5 1 [x, y, z] = [0, y, -x] := rfl
theorem gone_52 : goneM 5 2 [x, y, z] = [x, 0, -(-y)] := rfl
theorem gone_53 : goneM 5 3 [x, y, z] = [x, 0, -y] := rfl
theorem outw_0 : outw 0 [x, y, z] = -x := rfl
theorem outw_1 : outw 1 [x, y, z] = x := rfl
theorem outw_2 : outw 2 [x, y, z] = -y := rfl
theorem outw_3 : outw 3 [x, y, z] = y := rfl
theorem outw_4 : outw 4 [x, y, z] = -z := rfl
theorem outw_5 : outw 5 [x, y, z] = z := rfl
theorem besides_0 : besidesL 0 = [2, 3, 4, 5] := by decide +kernel
theorem meas_0 : meas 0 [x, y, z] [A, B, C] = z * B - y * C := rfl
theorem besides_1 : besidesL 1 = [2, 3, 4, 5] := by decide +kernel
theorem meas_1 : meas 1 [x, y, z] [A, B, C] = y * C - z * B := rfl
theorem besides_2 : besidesL 2 = [0, 1, 4, 5] := by decide +kernel
theorem meas_2 : meas 2 [x, y, z] [A, B, C] = x * C - z * A := rfl
theorem besides_3 : besidesL 3 = [0, 1, 4, 5] := by decide +kernel
theorem meas_3 : meas 3 [x, y, z] [A, B, C] = z * A - x * C := rfl
theorem besides_4 : besidesL 4 = [0, 1, 2, 3] := by decide +kernel
theorem meas_4 : meas 4 [x, y, z] [A, B, C] = y * A - x * B := rfl
theorem besides_5 : besidesL 5 = [0, 1, 2, 3] := by decide +kernel
theorem meas_5 : meas 5 [x, y, z] [A, B, C] = x * B - y * A := rfl
end
end K27
set_option maxHeartbeats 4000000
/-! Two leaving edges hold no common strip. -/
namespace K27
def Hold (s : List Int) (f : Int) (d : List Int) (lo hi b : Int) : Prop := min (end0 s f b d) (end1 s f b d) ≤ lo ∧ hi ≤ max (end0 s f b d) (end1 s f b d)
section
variable {A B C x y z lo hi : Int} (hA : 1 ≤ A) (hB : 1 ≤ B) (hC : 1 ≤ C)
include hA hB hC
theorem ov_023 (hl : lo < hi) (h1 : 0 < -y) (h2 : 0 < y) (k1 : Hold [A, B, C] 0 [x, y, z] lo hi 2) (k2 : Hold [A, B, C] 0 [x, y, z] lo hi 3) : False := by
  omega
theorem ov_024 (hl : lo < hi) (h1 : 0 < -y) (h2 : 0 < -z) (k1 : Hold [A, B, C] 0 [x, y, z] lo hi 2) (k2 : Hold [A, B, C] 0 [x, y, z] lo hi 4) : False := by
  unfold Hold at k1 k2
  rw [end0_02, end1_02] at k1
  rw [end0_04, end1_04] at k2
  have qh1 := Int.mul_pos h1 (show 0 < C by omega)
  rw [Int.neg_mul] at qh1
  have qh2 := Int.mul_pos h2 (show 0 < B by omega)
  rw [Int.neg_mul] at qh2
  omega
theorem ov_025 (hl : lo < hi) (h1 : 0 < -y) (h2 : 0 < z) (k1 : Hold [A, B, C] 0 [x, y, z] lo hi 2) (k2 : Hold [A, B, C] 0 [x, y, z] lo hi 5) : False := by
  unfold Hold at k1 k2
  rw [end0_02, end1_02] at k1
  rw [end0_05, end1_05] at k2
  have qh1 := Int.mul_pos h1 (show 0 < C by omega)
  rw [Int.neg_mul] at qh1
  have qh2 := Int.mul_pos h2 (show 0 < B by omega)
  omega
theorem ov_034 (hl : lo < hi) (h1 : 0 < y) (h2 : 0 < -z) (k1 : Hold [A, B, C] 0 [x, y, z] lo hi 3) (k2 : Hold [A, B, C] 0 [x, y, z] lo hi 4) : False := by
  unfold Hold at k1 k2
  rw [end0_03, end1_03] at k1
  rw [end0_04, end1_04] at k2
  have qh1 := Int.mul_pos h1 (show 0 < C by omega)
  have qh2 := Int.mul_pos h2 (show 0 < B by omega)
  rw [Int.neg_mul] at qh2
  omega
theorem ov_035 (hl : lo < hi) (h1 : 0 < y) (h2 : 0 < z) (k1 : Hold [A, B, C] 0 [x, y, z] lo hi 3) (k2 : Hold [A, B, C] 0 [x, y, z] lo hi 5) : False := by
  unfold Hold at k1 k2
  rw [end0_03, end1_03] at k1
  rw [end0_05, end1_05] at k2
  have qh1 := Int.mul_pos h1 (show 0 < C by omega)
  have qh2 := Int.mul_pos h2 (show 0 < B by omega)
  omega
theorem ov_045 (hl : lo < hi) (h1 : 0 < -z) (h2 : 0 < z) (k1 : Hold [A, B, C] 0 [x, y, z] lo hi 4) (k2 : Hold [A, B, C] 0 [x, y, z] lo hi 5) : False := by
  omega
theorem ov_123 (hl : lo < hi) (h1 : 0 < -y) (h2 : 0 < y) (k1 : Hold [A, B, C] 1 [x, y, z] lo hi 2) (k2 : Hold [A, B, C] 1 [x, y, z] lo hi 3) : False := by
  omega
theorem ov_124 (hl : lo < hi) (h1 : 0 < -y) (h2 : 0 < -z) (k1 : Hold [A, B, C] 1 [x, y, z] lo hi 2) (k2 : Hold [A, B, C] 1 [x, y, z] lo hi 4) : False := by
  unfold Hold at k1 k2
  rw [end0_12, end1_12] at k1
  rw [end0_14, end1_14] at k2
  have qh1 := Int.mul_pos h1 (show 0 < C by omega)
  rw [Int.neg_mul] at qh1
  have qh2 := Int.mul_pos h2 (show 0 < B by omega)
  rw [Int.neg_mul] at qh2
  omega
theorem ov_125 (hl : lo < hi) (h1 : 0 < -y) (h2 : 0 < z) (k1 : Hold [A, B, C] 1 [x, y, z] lo hi 2) (k2 : Hold [A, B, C] 1 [x, y, z] lo hi 5) : False := by
  unfold Hold at k1 k2
  rw [end0_12, end1_12] at k1
  rw [end0_15, end1_15] at k2
  have qh1 := Int.mul_pos h1 (show 0 < C by omega)
  rw [Int.neg_mul] at qh1
  have qh2 := Int.mul_pos h2 (show 0 < B by omega)
  omega
theorem ov_134 (hl : lo < hi) (h1 : 0 < y) (h2 : 0 < -z) (k1 : Hold [A, B, C] 1 [x, y, z] lo hi 3) (k2 : Hold [A, B, C] 1 [x, y, z] lo hi 4) : False := by
  unfold Hold at k1 k2
  rw [end0_13, end1_13] at k1
  rw [end0_14, end1_14] at k2
  have qh1 := Int.mul_pos h1 (show 0 < C by omega)
  have qh2 := Int.mul_pos h2 (show 0 < B by omega)
  rw [Int.neg_mul] at qh2
  omega
theorem ov_135 (hl : lo < hi) (h1 : 0 < y) (h2 : 0 < z) (k1 : Hold [A, B, C] 1 [x, y, z] lo hi 3) (k2 : Hold [A, B, C] 1 [x, y, z] lo hi 5) : False := by
  unfold Hold at k1 k2
  rw [end0_13, end1_13] at k1
  rw [end0_15, end1_15] at k2
  have qh1 := Int.mul_pos h1 (show 0 < C by omega)
  have qh2 := Int.mul_pos h2 (show 0 < B by omega)
  omega
theorem ov_145 (hl : lo < hi) (h1 : 0 < -z) (h2 : 0 < z) (k1 : Hold [A, B, C] 1 [x, y, z] lo hi 4) (k2 : Hold [A, B, C] 1 [x, y, z] lo hi 5) : False := by
  omega
theorem ov_201 (hl : lo < hi) (h1 : 0 < -x) (h2 : 0 < x) (k1 : Hold [A, B, C] 2 [x, y, z] lo hi 0) (k2 : Hold [A, B, C] 2 [x, y, z] lo hi 1) : False := by
  omega
theorem ov_204 (hl : lo < hi) (h1 : 0 < -x) (h2 : 0 < -z) (k1 : Hold [A, B, C] 2 [x, y, z] lo hi 0) (k2 : Hold [A, B, C] 2 [x, y, z] lo hi 4) : False := by
  unfold Hold at k1 k2
  rw [end0_20, end1_20] at k1
  rw [end0_24, end1_24] at k2
  have qh1 := Int.mul_pos h1 (show 0 < C by omega)
  rw [Int.neg_mul] at qh1
  have qh2 := Int.mul_pos h2 (show 0 < A by omega)
  rw [Int.neg_mul] at qh2
  omega
theorem ov_205 (hl : lo < hi) (h1 : 0 < -x) (h2 : 0 < z) (k1 : Hold [A, B, C] 2 [x, y, z] lo hi 0) (k2 : Hold [A, B, C] 2 [x, y, z] lo hi 5) : False := by
  unfold Hold at k1 k2
  rw [end0_20, end1_20] at k1
  rw [end0_25, end1_25] at k2
  have qh1 := Int.mul_pos h1 (show 0 < C by omega)
  rw [Int.neg_mul] at qh1
  have qh2 := Int.mul_pos h2 (show 0 < A by omega)
  omega
theorem ov_214 (hl : lo < hi) (h1 : 0 < x) (h2 : 0 < -z) (k1 : Hold [A, B, C] 2 [x, y, z] lo hi 1) (k2 : Hold [A, B, C] 2 [x, y, z] lo hi 4) : False := by
  unfold Hold at k1 k2
  rw [end0_21, end1_21] at k1
  rw [end0_24, end1_24] at k2
  have qh1 := Int.mul_pos h1 (show 0 < C by omega)
  have qh2 := Int.mul_pos h2 (show 0 < A by omega)
  rw [Int.neg_mul] at qh2
  omega
theorem ov_215 (hl : lo < hi) (h1 : 0 < x) (h2 : 0 < z) (k1 : Hold [A, B, C] 2 [x, y, z] lo hi 1) (k2 : Hold [A, B, C] 2 [x, y, z] lo hi 5) : False := by
  unfold Hold at k1 k2
  rw [end0_21, end1_21] at k1
  rw [end0_25, end1_25] at k2
  have qh1 := Int.mul_pos h1 (show 0 < C by omega)
  have qh2 := Int.mul_pos h2 (show 0 < A by omega)
  omega
theorem ov_245 (hl : lo < hi) (h1 : 0 < -z) (h2 : 0 < z) (k1 : Hold [A, B, C] 2 [x, y, z] lo hi 4) (k2 : Hold [A, B, C] 2 [x, y, z] lo hi 5) : False := by
  omega
theorem ov_301 (hl : lo < hi) (h1 : 0 < -x) (h2 : 0 < x) (k1 : Hold [A, B, C] 3 [x, y, z] lo hi 0) (k2 : Hold [A, B, C] 3 [x, y, z] lo hi 1) : False := by
  omega
theorem ov_304 (hl : lo < hi) (h1 : 0 < -x) (h2 : 0 < -z) (k1 : Hold [A, B, C] 3 [x, y, z] lo hi 0) (k2 : Hold [A, B, C] 3 [x, y, z] lo hi 4) : False := by
  unfold Hold at k1 k2
  rw [end0_30, end1_30] at k1
  rw [end0_34, end1_34] at k2
  have qh1 := Int.mul_pos h1 (show 0 < C by omega)
  rw [Int.neg_mul] at qh1
  have qh2 := Int.mul_pos h2 (show 0 < A by omega)
  rw [Int.neg_mul] at qh2
  omega
theorem ov_305 (hl : lo < hi) (h1 : 0 < -x) (h2 : 0 < z) (k1 : Hold [A, B, C] 3 [x, y, z] lo hi 0) (k2 : Hold [A, B, C] 3 [x, y, z] lo hi 5) : False := by
  unfold Hold at k1 k2
  rw [end0_30, end1_30] at k1
  rw [end0_35, end1_35] at k2
  have qh1 := Int.mul_pos h1 (show 0 < C by omega)
  rw [Int.neg_mul] at qh1
  have qh2 := Int.mul_pos h2 (show 0 < A by omega)
  omega
theorem ov_314 (hl : lo < hi) (h1 : 0 < x) (h2 : 0 < -z) (k1 : Hold [A, B, C] 3 [x, y, z] lo hi 1) (k2 : Hold [A, B, C] 3 [x, y, z] lo hi 4) : False := by
  unfold Hold at k1 k2
  rw [end0_31, end1_31] at k1
  rw [end0_34, end1_34] at k2
  have qh1 := Int.mul_pos h1 (show 0 < C by omega)
  have qh2 := Int.mul_pos h2 (show 0 < A by omega)
  rw [Int.neg_mul] at qh2
  omega
theorem ov_315 (hl : lo < hi) (h1 : 0 < x) (h2 : 0 < z) (k1 : Hold [A, B, C] 3 [x, y, z] lo hi 1) (k2 : Hold [A, B, C] 3 [x, y, z] lo hi 5) : False := by
  unfold Hold at k1 k2
  rw [end0_31, end1_31] at k1
  rw [end0_35, end1_35] at k2
  have qh1 := Int.mul_pos h1 (show 0 < C by omega)
  have qh2 := Int.mul_pos h2 (show 0 < A by omega)
  omega
theorem ov_345 (hl : lo < hi) (h1 : 0 < -z) (h2 : 0 < z) (k1 : Hold [A, B, C] 3 [x, y, z] lo hi 4) (k2 : Hold [A, B, C] 3 [x, y, z] lo hi 5) : False := by
  omega
theorem ov_401 (hl : lo < hi) (h1 : 0 < -x) (h2 : 0 < x) (k1 : Hold [A, B, C] 4 [x, y, z] lo hi 0) (k2 : Hold [A, B, C] 4 [x, y, z] lo hi 1) : False := by
  omega
theorem ov_402 (hl : lo < hi) (h1 : 0 < -x) (h2 : 0 < -y) (k1 : Hold [A, B, C] 4 [x, y, z] lo hi 0) (k2 : Hold [A, B, C] 4 [x, y, z] lo hi 2) : False := by
  unfold Hold at k1 k2
  rw [end0_40, end1_40] at k1
  rw [end0_42, end1_42] at k2
  have qh1 := Int.mul_pos h1 (show 0 < B by omega)
  rw [Int.neg_mul] at qh1
  have qh2 := Int.mul_pos h2 (show 0 < A by omega)
  rw [Int.neg_mul] at qh2
  omega
theorem ov_403 (hl : lo < hi) (h1 : 0 < -x) (h2 : 0 < y) (k1 : Hold [A, B, C] 4 [x, y, z] lo hi 0) (k2 : Hold [A, B, C] 4 [x, y, z] lo hi 3) : False := by
  unfold Hold at k1 k2
  rw [end0_40, end1_40] at k1
  rw [end0_43, end1_43] at k2
  have qh1 := Int.mul_pos h1 (show 0 < B by omega)
  rw [Int.neg_mul] at qh1
  have qh2 := Int.mul_pos h2 (show 0 < A by omega)
  omega
theorem ov_412 (hl : lo < hi) (h1 : 0 < x) (h2 : 0 < -y) (k1 : Hold [A, B, C] 4 [x, y, z] lo hi 1) (k2 : Hold [A, B, C] 4 [x, y, z] lo hi 2) : False := by
  unfold Hold at k1 k2
  rw [end0_41, end1_41] at k1
  rw [end0_42, end1_42] at k2
  have qh1 := Int.mul_pos h1 (show 0 < B by omega)
  have qh2 := Int.mul_pos h2 (show 0 < A by omega)
  rw [Int.neg_mul] at qh2
  omega
theorem ov_413 (hl : lo < hi) (h1 : 0 < x) (h2 : 0 < y) (k1 : Hold [A, B, C] 4 [x, y, z] lo hi 1) (k2 : Hold [A, B, C] 4 [x, y, z] lo hi 3) : False := by
  unfold Hold at k1 k2
  rw [end0_41, end1_41] at k1
  rw [end0_43, end1_43] at k2
  have qh1 := Int.mul_pos h1 (show 0 < B by omega)
  have qh2 := Int.mul_pos h2 (show 0 < A by omega)
  omega
theorem ov_423 (hl : lo < hi) (h1 : 0 < -y) (h2 : 0 < y) (k1 : Hold [A, B, C] 4 [x, y, z] lo hi 2) (k2 : Hold [A, B, C] 4 [x, y, z] lo hi 3) : False := by
  omega
theorem ov_501 (hl : lo < hi) (h1 : 0 < -x) (h2 : 0 < x) (k1 : Hold [A, B, C] 5 [x, y, z] lo hi 0) (k2 : Hold [A, B, C] 5 [x, y, z] lo hi 1) : False := by
  omega
theorem ov_502 (hl : lo < hi) (h1 : 0 < -x) (h2 : 0 < -y) (k1 : Hold [A, B, C] 5 [x, y, z] lo hi 0) (k2 : Hold [A, B, C] 5 [x, y, z] lo hi 2) : False := by
  unfold Hold at k1 k2
  rw [end0_50, end1_50] at k1
  rw [end0_52, end1_52] at k2
  have qh1 := Int.mul_pos h1 (show 0 < B by omega)
  rw [Int.neg_mul] at qh1
  have qh2 := Int.mul_pos h2 (show 0 < A by omega)
  rw [Int.neg_mul] at qh2
  omega
theorem ov_503 (hl : lo < hi) (h1 : 0 < -x) (h2 : 0 < y) (k1 : Hold [A, B, C] 5 [x, y, z] lo hi 0) (k2 : Hold [A, B, C] 5 [x, y, z] lo hi 3) : False := by
  unfold Hold at k1 k2
  rw [end0_50, end1_50] at k1
  rw [end0_53, end1_53] at k2
  have qh1 := Int.mul_pos h1 (show 0 < B by omega)
  rw [Int.neg_mul] at qh1
  have qh2 := Int.mul_pos h2 (show 0 < A by omega)
  omega
theorem ov_512 (hl : lo < hi) (h1 : 0 < x) (h2 : 0 < -y) (k1 : Hold [A, B, C] 5 [x, y, z] lo hi 1) (k2 : Hold [A, B, C] 5 [x, y, z] lo hi 2) : False := by
  unfold Hold at k1 k2
  rw [end0_51, end1_51] at k1
  rw [end0_52, end1_52] at k2
  have qh1 := Int.mul_pos h1 (show 0 < B by omega)
  have qh2 := Int.mul_pos h2 (show 0 < A by omega)
  rw [Int.neg_mul] at qh2
  omega
theorem ov_513 (hl : lo < hi) (h1 : 0 < x) (h2 : 0 < y) (k1 : Hold [A, B, C] 5 [x, y, z] lo hi 1) (k2 : Hold [A, B, C] 5 [x, y, z] lo hi 3) : False := by
  unfold Hold at k1 k2
  rw [end0_51, end1_51] at k1
  rw [end0_53, end1_53] at k2
  have qh1 := Int.mul_pos h1 (show 0 < B by omega)
  have qh2 := Int.mul_pos h2 (show 0 < A by omega)
  omega
theorem ov_523 (hl : lo < hi) (h1 : 0 < -y) (h2 : 0 < y) (k1 : Hold [A, B, C] 5 [x, y, z] lo hi 2) (k2 : Hold [A, B, C] 5 [x, y, z] lo hi 3) : False := by
  omega
end
end K27
set_option maxHeartbeats 4000000
/-! Every unit of the range leaves. -/
namespace K27
theorem sg {x A : Int} (h : 1 ≤ A) : (x = 0 ∧ x * A = 0) ∨ (0 < x ∧ 0 < x * A) ∨ (x < 0 ∧ x * A < 0) := by
  rcases Int.lt_trichotomy x 0 with q | q | q
  · exact .inr (.inr ⟨q, Int.mul_neg_of_neg_of_pos q (by omega)⟩)
  · exact .inl ⟨q, by rw [q, Int.zero_mul]⟩
  · exact .inr (.inl ⟨q, Int.mul_pos q (by omega)⟩)
section
variable {A B C x y z k : Int}
theorem told_0 : toldM [A, B, C] 0 [x, y, z] = [0, z * B, -(y * C), z * B - y * C] := by
  show [z * (B * 0) - y * (C * 0), z * (B * 1) - y * (C * 0), z * (B * 0) - y * (C * 1), z * (B * 1) - y * (C * 1)] = _
  simp only [Int.mul_zero, Int.mul_one, Int.sub_zero, Int.zero_sub, Int.neg_zero]
theorem rng_0 : rngL [A, B, C] 0 [x, y, z] = [end0 [A, B, C] 0 2 [x, y, z], end1 [A, B, C] 0 2 [x, y, z], end0 [A, B, C] 0 3 [x, y, z], end1 [A, B, C] 0 3 [x, y, z], end0 [A, B, C] 0 4 [x, y, z], end1 [A, B, C] 0 4 [x, y, z], end0 [A, B, C] 0 5 [x, y, z], end1 [A, B, C] 0 5 [x, y, z]] := by
  unfold rngL
  rw [besides_0]
  rfl
theorem lstMin_0 : lstMin (toldM [A, B, C] 0 [x, y, z]) = min (min (min 0 (z * B)) (-(y * C))) (z * B - y * C) := by
  rw [told_0]
  rfl
theorem lstMinr_0 : lstMin (rngL [A, B, C] 0 [x, y, z]) = lstMin (toldM [A, B, C] 0 [x, y, z]) := by
  rw [lstMin_0, rng_0]
  show (min (min (min (min (min (min (min (end0 [A, B, C] 0 2 [x, y, z]) (end1 [A, B, C] 0 2 [x, y, z])) (end0 [A, B, C] 0 3 [x, y, z])) (end1 [A, B, C] 0 3 [x, y, z])) (end0 [A, B, C] 0 4 [x, y, z])) (end1 [A, B, C] 0 4 [x, y, z])) (end0 [A, B, C] 0 5 [x, y, z])) (end1 [A, B, C] 0 5 [x, y, z])) = _
  rw [end0_02, end1_02, end0_03, end1_03, end0_04, end1_04, end0_05, end1_05]
  generalize z * B = u
  generalize y * C = v
  omega
theorem lstMax_0 : lstMax (toldM [A, B, C] 0 [x, y, z]) = max (max (max 0 (z * B)) (-(y * C))) (z * B - y * C) := by
  rw [told_0]
  rfl
theorem lstMaxr_0 : lstMax (rngL [A, B, C] 0 [x, y, z]) = lstMax (toldM [A, B, C] 0 [x, y, z]) := by
  rw [lstMax_0, rng_0]
  show (max (max (max (max (max (max (max (end0 [A, B, C] 0 2 [x, y, z]) (end1 [A, B, C] 0 2 [x, y, z])) (end0 [A, B, C] 0 3 [x, y, z])) (end1 [A, B, C] 0 3 [x, y, z])) (end0 [A, B, C] 0 4 [x, y, z])) (end1 [A, B, C] 0 4 [x, y, z])) (end0 [A, B, C] 0 5 [x, y, z])) (end1 [A, B, C] 0 5 [x, y, z])) = _
  rw [end0_02, end1_02, end0_03, end1_03, end0_04, end1_04, end0_05, end1_05]
  generalize z * B = u
  generalize y * C = v
  omega
theorem cov_0 (hA : 1 ≤ A) (hB : 1 ≤ B) (hC : 1 ≤ C) (hd : z ≠ 0 ∨ y ≠ 0) (h1 : lstMin (toldM [A, B, C] 0 [x, y, z]) ≤ k) (h2 : k + 1 ≤ lstMax (toldM [A, B, C] 0 [x, y, z])) : (0 < -y ∧ Hold [A, B, C] 0 [x, y, z] k (k + 1) 2) ∨ (0 < y ∧ Hold [A, B, C] 0 [x, y, z] k (k + 1) 3) ∨ (0 < -z ∧ Hold [A, B, C] 0 [x, y, z] k (k + 1) 4) ∨ (0 < z ∧ Hold [A, B, C] 0 [x, y, z] k (k + 1) 5) := by
  rw [lstMin_0] at h1
  rw [lstMax_0] at h2
  unfold Hold
  rw [end0_02, end1_02, end0_03, end1_03, end0_04, end1_04, end0_05, end1_05]
  have e1 : (z = 0 ∧ z * B = 0) ∨ (0 < z ∧ 0 < z * B) ∨ (z < 0 ∧ z * B < 0) := sg (by omega)
  have e2 : (y = 0 ∧ y * C = 0) ∨ (0 < y ∧ 0 < y * C) ∨ (y < 0 ∧ y * C < 0) := sg (by omega)
  generalize z * B = u at *
  generalize y * C = v at *
  rcases e1 with ⟨p1, q1⟩ | ⟨p1, q1⟩ | ⟨p1, q1⟩ <;> rcases e2 with ⟨p2, q2⟩ | ⟨p2, q2⟩ | ⟨p2, q2⟩ <;> omega
theorem told_1 : toldM [A, B, C] 1 [x, y, z] = [0, y * C, -(z * B), y * C - z * B] := by
  show [y * (C * 0) - z * (B * 0), y * (C * 1) - z * (B * 0), y * (C * 0) - z * (B * 1), y * (C * 1) - z * (B * 1)] = _
  simp only [Int.mul_zero, Int.mul_one, Int.sub_zero, Int.zero_sub, Int.neg_zero]
theorem rng_1 : rngL [A, B, C] 1 [x, y, z] = [end0 [A, B, C] 1 2 [x, y, z], end1 [A, B, C] 1 2 [x, y, z], end0 [A, B, C] 1 3 [x, y, z], end1 [A, B, C] 1 3 [x, y, z], end0 [A, B, C] 1 4 [x, y, z], end1 [A, B, C] 1 4 [x, y, z], end0 [A, B, C] 1 5 [x, y, z], end1 [A, B, C] 1 5 [x, y, z]] := by
  unfold rngL
  rw [besides_1]
  rfl
theorem lstMin_1 : lstMin (toldM [A, B, C] 1 [x, y, z]) = min (min (min 0 (y * C)) (-(z * B))) (y * C - z * B) := by
  rw [told_1]
  rfl
theorem lstMinr_1 : lstMin (rngL [A, B, C] 1 [x, y, z]) = lstMin (toldM [A, B, C] 1 [x, y, z]) := by
  rw [lstMin_1, rng_1]
  show (min (min (min (min (min (min (min (end0 [A, B, C] 1 2 [x, y, z]) (end1 [A, B, C] 1 2 [x, y, z])) (end0 [A, B, C] 1 3 [x, y, z])) (end1 [A, B, C] 1 3 [x, y, z])) (end0 [A, B, C] 1 4 [x, y, z])) (end1 [A, B, C] 1 4 [x, y, z])) (end0 [A, B, C] 1 5 [x, y, z])) (end1 [A, B, C] 1 5 [x, y, z])) = _
  rw [end0_12, end1_12, end0_13, end1_13, end0_14, end1_14, end0_15, end1_15]
  generalize y * C = u
  generalize z * B = v
  omega
theorem lstMax_1 : lstMax (toldM [A, B, C] 1 [x, y, z]) = max (max (max 0 (y * C)) (-(z * B))) (y * C - z * B) := by
  rw [told_1]
  rfl
theorem lstMaxr_1 : lstMax (rngL [A, B, C] 1 [x, y, z]) = lstMax (toldM [A, B, C] 1 [x, y, z]) := by
  rw [lstMax_1, rng_1]
  show (max (max (max (max (max (max (max (end0 [A, B, C] 1 2 [x, y, z]) (end1 [A, B, C] 1 2 [x, y, z])) (end0 [A, B, C] 1 3 [x, y, z])) (end1 [A, B, C] 1 3 [x, y, z])) (end0 [A, B, C] 1 4 [x, y, z])) (end1 [A, B, C] 1 4 [x, y, z])) (end0 [A, B, C] 1 5 [x, y, z])) (end1 [A, B, C] 1 5 [x, y, z])) = _
  rw [end0_12, end1_12, end0_13, end1_13, end0_14, end1_14, end0_15, end1_15]
  generalize y * C = u
  generalize z * B = v
  omega
theorem cov_1 (hA : 1 ≤ A) (hB : 1 ≤ B) (hC : 1 ≤ C) (hd : y ≠ 0 ∨ z ≠ 0) (h1 : lstMin (toldM [A, B, C] 1 [x, y, z]) ≤ k) (h2 : k + 1 ≤ lstMax (toldM [A, B, C] 1 [x, y, z])) : (0 < -y ∧ Hold [A, B, C] 1 [x, y, z] k (k + 1) 2) ∨ (0 < y ∧ Hold [A, B, C] 1 [x, y, z] k (k + 1) 3) ∨ (0 < -z ∧ Hold [A, B, C] 1 [x, y, z] k (k + 1) 4) ∨ (0 < z ∧ Hold [A, B, C] 1 [x, y, z] k (k + 1) 5) := by
  rw [lstMin_1] at h1
  rw [lstMax_1] at h2
  unfold Hold
  rw [end0_12, end1_12, end0_13, end1_13, end0_14, end1_14, end0_15, end1_15]
  have e1 : (y = 0 ∧ y * C = 0) ∨ (0 < y ∧ 0 < y * C) ∨ (y < 0 ∧ y * C < 0) := sg (by omega)
  have e2 : (z = 0 ∧ z * B = 0) ∨ (0 < z ∧ 0 < z * B) ∨ (z < 0 ∧ z * B < 0) := sg (by omega)
  generalize y * C = u at *
  generalize z * B = v at *
  rcases e1 with ⟨p1, q1⟩ | ⟨p1, q1⟩ | ⟨p1, q1⟩ <;> rcases e2 with ⟨p2, q2⟩ | ⟨p2, q2⟩ | ⟨p2, q2⟩ <;> omega
theorem told_2 : toldM [A, B, C] 2 [x, y, z] = [0, x * C, -(z * A), x * C - z * A] := by
  show [x * (C * 0) - z * (A * 0), x * (C * 1) - z * (A * 0), x * (C * 0) - z * (A * 1), x * (C * 1) - z * (A * 1)] = _
  simp only [Int.mul_zero, Int.mul_one, Int.sub_zero, Int.zero_sub, Int.neg_zero]
theorem rng_2 : rngL [A, B, C] 2 [x, y, z] = [end0 [A, B, C] 2 0 [x, y, z], end1 [A, B, C] 2 0 [x, y, z], end0 [A, B, C] 2 1 [x, y, z], end1 [A, B, C] 2 1 [x, y, z], end0 [A, B, C] 2 4 [x, y, z], end1 [A, B, C] 2 4 [x, y, z], end0 [A, B, C] 2 5 [x, y, z], end1 [A, B, C] 2 5 [x, y, z]] := by
  unfold rngL
  rw [besides_2]
  rfl
theorem lstMin_2 : lstMin (toldM [A, B, C] 2 [x, y, z]) = min (min (min 0 (x * C)) (-(z * A))) (x * C - z * A) := by
  rw [told_2]
  rfl
theorem lstMinr_2 : lstMin (rngL [A, B, C] 2 [x, y, z]) = lstMin (toldM [A, B, C] 2 [x, y, z]) := by
  rw [lstMin_2, rng_2]
  show (min (min (min (min (min (min (min (end0 [A, B, C] 2 0 [x, y, z]) (end1 [A, B, C] 2 0 [x, y, z])) (end0 [A, B, C] 2 1 [x, y, z])) (end1 [A, B, C] 2 1 [x, y, z])) (end0 [A, B, C] 2 4 [x, y, z])) (end1 [A, B, C] 2 4 [x, y, z])) (end0 [A, B, C] 2 5 [x, y, z])) (end1 [A, B, C] 2 5 [x, y, z])) = _
  rw [end0_20, end1_20, end0_21, end1_21, end0_24, end1_24, end0_25, end1_25]
  generalize x * C = u
  generalize z * A = v
  omega
theorem lstMax_2 : lstMax (toldM [A, B, C] 2 [x, y, z]) = max (max (max 0 (x * C)) (-(z * A))) (x * C - z * A) := by
  rw [told_2]
  rfl
theorem lstMaxr_2 : lstMax (rngL [A, B, C] 2 [x, y, z]) = lstMax (toldM [A, B, C] 2 [x, y, z]) := by
  rw [lstMax_2, rng_2]
  show (max (max (max (max (max (max (max (end0 [A, B, C] 2 0 [x, y, z]) (end1 [A, B, C] 2 0 [x, y, z])) (end0 [A, B, C] 2 1 [x, y, z])) (end1 [A, B, C] 2 1 [x, y, z])) (end0 [A, B, C] 2 4 [x, y, z])) (end1 [A, B, C] 2 4 [x, y, z])) (end0 [A, B, C] 2 5 [x, y, z])) (end1 [A, B, C] 2 5 [x, y, z])) = _
  rw [end0_20, end1_20, end0_21, end1_21, end0_24, end1_24, end0_25, end1_25]
  generalize x * C = u
  generalize z * A = v
  omega
theorem cov_2 (hA : 1 ≤ A) (hB : 1 ≤ B) (hC : 1 ≤ C) (hd : x ≠ 0 ∨ z ≠ 0) (h1 : lstMin (toldM [A, B, C] 2 [x, y, z]) ≤ k) (h2 : k + 1 ≤ lstMax (toldM [A, B, C] 2 [x, y, z])) : (0 < -x ∧ Hold [A, B, C] 2 [x, y, z] k (k + 1) 0) ∨ (0 < x ∧ Hold [A, B, C] 2 [x, y, z] k (k + 1) 1) ∨ (0 < -z ∧ Hold [A, B, C] 2 [x, y, z] k (k + 1) 4) ∨ (0 < z ∧ Hold [A, B, C] 2 [x, y, z] k (k + 1) 5) := by
  rw [lstMin_2] at h1
  rw [lstMax_2] at h2
  unfold Hold
  rw [end0_20, end1_20, end0_21, end1_21, end0_24, end1_24, end0_25, end1_25]
  have e1 : (x = 0 ∧ x * C = 0) ∨ (0 < x ∧ 0 < x * C) ∨ (x < 0 ∧ x * C < 0) := sg (by omega)
  have e2 : (z = 0 ∧ z * A = 0) ∨ (0 < z ∧ 0 < z * A) ∨ (z < 0 ∧ z * A < 0) := sg (by omega)
  generalize x * C = u at *
  generalize z * A = v at *
  rcases e1 with ⟨p1, q1⟩ | ⟨p1, q1⟩ | ⟨p1, q1⟩ <;> rcases e2 with ⟨p2, q2⟩ | ⟨p2, q2⟩ | ⟨p2, q2⟩ <;> omega
theorem told_3 : toldM [A, B, C] 3 [x, y, z] = [0, z * A, -(x * C), z * A - x * C] := by
  show [z * (A * 0) - x * (C * 0), z * (A * 1) - x * (C * 0), z * (A * 0) - x * (C * 1), z * (A * 1) - x * (C * 1)] = _
  simp only [Int.mul_zero, Int.mul_one, Int.sub_zero, Int.zero_sub, Int.neg_zero]
theorem rng_3 : rngL [A, B, C] 3 [x, y, z] = [end0 [A, B, C] 3 0 [x, y, z], end1 [A, B, C] 3 0 [x, y, z], end0 [A, B, C] 3 1 [x, y, z], end1 [A, B, C] 3 1 [x, y, z], end0 [A, B, C] 3 4 [x, y, z], end1 [A, B, C] 3 4 [x, y, z], end0 [A, B, C] 3 5 [x, y, z], end1 [A, B, C] 3 5 [x, y, z]] := by
  unfold rngL
  rw [besides_3]
  rfl
theorem lstMin_3 : lstMin (toldM [A, B, C] 3 [x, y, z]) = min (min (min 0 (z * A)) (-(x * C))) (z * A - x * C) := by
  rw [told_3]
  rfl
theorem lstMinr_3 : lstMin (rngL [A, B, C] 3 [x, y, z]) = lstMin (toldM [A, B, C] 3 [x, y, z]) := by
  rw [lstMin_3, rng_3]
  show (min (min (min (min (min (min (min (end0 [A, B, C] 3 0 [x, y, z]) (end1 [A, B, C] 3 0 [x, y, z])) (end0 [A, B, C] 3 1 [x, y, z])) (end1 [A, B, C] 3 1 [x, y, z])) (end0 [A, B, C] 3 4 [x, y, z])) (end1 [A, B, C] 3 4 [x, y, z])) (end0 [A, B, C] 3 5 [x, y, z])) (end1 [A, B, C] 3 5 [x, y, z])) = _
  rw [end0_30, end1_30, end0_31, end1_31, end0_34, end1_34, end0_35, end1_35]
  generalize z * A = u
  generalize x * C = v
  omega
theorem lstMax_3 : lstMax (toldM [A, B, C] 3 [x, y, z]) = max (max (max 0 (z * A)) (-(x * C))) (z * A - x * C) := by
  rw [told_3]
  rfl
theorem lstMaxr_3 : lstMax (rngL [A, B, C] 3 [x, y, z]) = lstMax (toldM [A, B, C] 3 [x, y, z]) := by
  rw [lstMax_3, rng_3]
  show (max (max (max (max (max (max (max (end0 [A, B, C] 3 0 [x, y, z]) (end1 [A, B, C] 3 0 [x, y, z])) (end0 [A, B, C] 3 1 [x, y, z])) (end1 [A, B, C] 3 1 [x, y, z])) (end0 [A, B, C] 3 4 [x, y, z])) (end1 [A, B, C] 3 4 [x, y, z])) (end0 [A, B, C] 3 5 [x, y, z])) (end1 [A, B, C] 3 5 [x, y, z])) = _
  rw [end0_30, end1_30, end0_31, end1_31, end0_34, end1_34, end0_35, end1_35]
  generalize z * A = u
  generalize x * C = v
  omega
theorem cov_3 (hA : 1 ≤ A) (hB : 1 ≤ B) (hC : 1 ≤ C) (hd : z ≠ 0 ∨ x ≠ 0) (h1 : lstMin (toldM [A, B, C] 3 [x, y, z]) ≤ k) (h2 : k + 1 ≤ lstMax (toldM [A, B, C] 3 [x, y, z])) : (0 < -x ∧ Hold [A, B, C] 3 [x, y, z] k (k + 1) 0) ∨ (0 < x ∧ Hold [A, B, C] 3 [x, y, z] k (k + 1) 1) ∨ (0 < -z ∧ Hold [A, B, C] 3 [x, y, z] k (k + 1) 4) ∨ (0 < z ∧ Hold [A, B, C] 3 [x, y, z] k (k + 1) 5) := by
  rw [lstMin_3] at h1
  rw [lstMax_3] at h2
  unfold Hold
  rw [end0_30, end1_30, end0_31, end1_31, end0_34, end1_34, end0_35, end1_35]
  have e1 : (z = 0 ∧ z * A = 0) ∨ (0 < z ∧ 0 < z * A) ∨ (z < 0 ∧ z * A < 0) := sg (by omega)
  have e2 : (x = 0 ∧ x * C = 0) ∨ (0 < x ∧ 0 < x * C) ∨ (x < 0 ∧ x * C < 0) := sg (by omega)
  generalize z * A = u at *
  generalize x * C = v at *
  rcases e1 with ⟨p1, q1⟩ | ⟨p1, q1⟩ | ⟨p1, q1⟩ <;> rcases e2 with ⟨p2, q2⟩ | ⟨p2, q2⟩ | ⟨p2, q2⟩ <;> omega
theorem told_4 : toldM [A, B, C] 4 [x, y, z] = [0, y * A, -(x * B), y * A - x * B] := by
  show [y * (A * 0) - x * (B * 0), y * (A * 1) - x * (B * 0), y * (A * 0) - x * (B * 1), y * (A * 1) - x * (B * 1)] = _
  simp only [Int.mul_zero, Int.mul_one, Int.sub_zero, Int.zero_sub, Int.neg_zero]
theorem rng_4 : rngL [A, B, C] 4 [x, y, z] = [end0 [A, B, C] 4 0 [x, y, z], end1 [A, B, C] 4 0 [x, y, z], end0 [A, B, C] 4 1 [x, y, z], end1 [A, B, C] 4 1 [x, y, z], end0 [A, B, C] 4 2 [x, y, z], end1 [A, B, C] 4 2 [x, y, z], end0 [A, B, C] 4 3 [x, y, z], end1 [A, B, C] 4 3 [x, y, z]] := by
  unfold rngL
  rw [besides_4]
  rfl
theorem lstMin_4 : lstMin (toldM [A, B, C] 4 [x, y, z]) = min (min (min 0 (y * A)) (-(x * B))) (y * A - x * B) := by
  rw [told_4]
  rfl
theorem lstMinr_4 : lstMin (rngL [A, B, C] 4 [x, y, z]) = lstMin (toldM [A, B, C] 4 [x, y, z]) := by
  rw [lstMin_4, rng_4]
  show (min (min (min (min (min (min (min (end0 [A, B, C] 4 0 [x, y, z]) (end1 [A, B, C] 4 0 [x, y, z])) (end0 [A, B, C] 4 1 [x, y, z])) (end1 [A, B, C] 4 1 [x, y, z])) (end0 [A, B, C] 4 2 [x, y, z])) (end1 [A, B, C] 4 2 [x, y, z])) (end0 [A, B, C] 4 3 [x, y, z])) (end1 [A, B, C] 4 3 [x, y, z])) = _
  rw [end0_40, end1_40, end0_41, end1_41, end0_42, end1_42, end0_43, end1_43]
  generalize y * A = u
  generalize x * B = v
  omega
theorem lstMax_4 : lstMax (toldM [A, B, C] 4 [x, y, z]) = max (max (max 0 (y * A)) (-(x * B))) (y * A - x * B) := by
  rw [told_4]
  rfl
theorem lstMaxr_4 : lstMax (rngL [A, B, C] 4 [x, y, z]) = lstMax (toldM [A, B, C] 4 [x, y, z]) := by
  rw [lstMax_4, rng_4]
  show (max (max (max (max (max (max (max (end0 [A, B, C] 4 0 [x, y, z]) (end1 [A, B, C] 4 0 [x, y, z])) (end0 [A, B, C] 4 1 [x, y, z])) (end1 [A, B, C] 4 1 [x, y, z])) (end0 [A, B, C] 4 2 [x, y, z])) (end1 [A, B, C] 4 2 [x, y, z])) (end0 [A, B, C] 4 3 [x, y, z])) (end1 [A, B, C] 4 3 [x, y, z])) = _
  rw [end0_40, end1_40, end0_41, end1_41, end0_42, end1_42, end0_43, end1_43]
  generalize y * A = u
  generalize x * B = v
  omega
theorem cov_4 (hA : 1 ≤ A) (hB : 1 ≤ B) (hC : 1 ≤ C) (hd : y ≠ 0 ∨ x ≠ 0) (h1 : lstMin (toldM [A, B, C] 4 [x, y, z]) ≤ k) (h2 : k + 1 ≤ lstMax (toldM [A, B, C] 4 [x, y, z])) : (0 < -x ∧ Hold [A, B, C] 4 [x, y, z] k (k + 1) 0) ∨ (0 < x ∧ Hold [A, B, C] 4 [x, y, z] k (k + 1) 1) ∨ (0 < -y ∧ Hold [A, B, C] 4 [x, y, z] k (k + 1) 2) ∨ (0 < y ∧ Hold [A, B, C] 4 [x, y, z] k (k + 1) 3) := by
  rw [lstMin_4] at h1
  rw [lstMax_4] at h2
  unfold Hold
  rw [end0_40, end1_40, end0_41, end1_41, end0_42, end1_42, end0_43, end1_43]
  have e1 : (y = 0 ∧ y * A = 0) ∨ (0 < y ∧ 0 < y * A) ∨ (y < 0 ∧ y * A < 0) := sg (by omega)
  have e2 : (x = 0 ∧ x * B = 0) ∨ (0 < x ∧ 0 < x * B) ∨ (x < 0 ∧ x * B < 0) := sg (by omega)
  generalize y * A = u at *
  generalize x * B = v at *
  rcases e1 with ⟨p1, q1⟩ | ⟨p1, q1⟩ | ⟨p1, q1⟩ <;> rcases e2 with ⟨p2, q2⟩ | ⟨p2, q2⟩ | ⟨p2, q2⟩ <;> omega
theorem told_5 : toldM [A, B, C] 5 [x, y, z] = [0, x * B, -(y * A), x * B - y * A] := by
  show [x * (B * 0) - y * (A * 0), x * (B * 1) - y * (A * 0), x * (B * 0) - y * (A * 1), x * (B * 1) - y * (A * 1)] = _
  simp only [Int.mul_zero, Int.mul_one, Int.sub_zero, Int.zero_sub, Int.neg_zero]
theorem rng_5 : rngL [A, B, C] 5 [x, y, z] = [end0 [A, B, C] 5 0 [x, y, z], end1 [A, B, C] 5 0 [x, y, z], end0 [A, B, C] 5 1 [x, y, z], end1 [A, B, C] 5 1 [x, y, z], end0 [A, B, C] 5 2 [x, y, z], end1 [A, B, C] 5 2 [x, y, z], end0 [A, B, C] 5 3 [x, y, z], end1 [A, B, C] 5 3 [x, y, z]] := by
  unfold rngL
  rw [besides_5]
  rfl
theorem lstMin_5 : lstMin (toldM [A, B, C] 5 [x, y, z]) = min (min (min 0 (x * B)) (-(y * A))) (x * B - y * A) := by
  rw [told_5]
  rfl
theorem lstMinr_5 : lstMin (rngL [A, B, C] 5 [x, y, z]) = lstMin (toldM [A, B, C] 5 [x, y, z]) := by
  rw [lstMin_5, rng_5]
  show (min (min (min (min (min (min (min (end0 [A, B, C] 5 0 [x, y, z]) (end1 [A, B, C] 5 0 [x, y, z])) (end0 [A, B, C] 5 1 [x, y, z])) (end1 [A, B, C] 5 1 [x, y, z])) (end0 [A, B, C] 5 2 [x, y, z])) (end1 [A, B, C] 5 2 [x, y, z])) (end0 [A, B, C] 5 3 [x, y, z])) (end1 [A, B, C] 5 3 [x, y, z])) = _
  rw [end0_50, end1_50, end0_51, end1_51, end0_52, end1_52, end0_53, end1_53]
  generalize x * B = u
  generalize y * A = v
  omega
theorem lstMax_5 : lstMax (toldM [A, B, C] 5 [x, y, z]) = max (max (max 0 (x * B)) (-(y * A))) (x * B - y * A) := by
  rw [told_5]
  rfl
theorem lstMaxr_5 : lstMax (rngL [A, B, C] 5 [x, y, z]) = lstMax (toldM [A, B, C] 5 [x, y, z]) := by
  rw [lstMax_5, rng_5]
  show (max (max (max (max (max (max (max (end0 [A, B, C] 5 0 [x, y, z]) (end1 [A, B, C] 5 0 [x, y, z])) (end0 [A, B, C] 5 1 [x, y, z])) (end1 [A, B, C] 5 1 [x, y, z])) (end0 [A, B, C] 5 2 [x, y, z])) (end1 [A, B, C] 5 2 [x, y, z])) (end0 [A, B, C] 5 3 [x, y, z])) (end1 [A, B, C] 5 3 [x, y, z])) = _
  rw [end0_50, end1_50, end0_51, end1_51, end0_52, end1_52, end0_53, end1_53]
  generalize x * B = u
  generalize y * A = v
  omega
theorem cov_5 (hA : 1 ≤ A) (hB : 1 ≤ B) (hC : 1 ≤ C) (hd : x ≠ 0 ∨ y ≠ 0) (h1 : lstMin (toldM [A, B, C] 5 [x, y, z]) ≤ k) (h2 : k + 1 ≤ lstMax (toldM [A, B, C] 5 [x, y, z])) : (0 < -x ∧ Hold [A, B, C] 5 [x, y, z] k (k + 1) 0) ∨ (0 < x ∧ Hold [A, B, C] 5 [x, y, z] k (k + 1) 1) ∨ (0 < -y ∧ Hold [A, B, C] 5 [x, y, z] k (k + 1) 2) ∨ (0 < y ∧ Hold [A, B, C] 5 [x, y, z] k (k + 1) 3) := by
  rw [lstMin_5] at h1
  rw [lstMax_5] at h2
  unfold Hold
  rw [end0_50, end1_50, end0_51, end1_51, end0_52, end1_52, end0_53, end1_53]
  have e1 : (x = 0 ∧ x * B = 0) ∨ (0 < x ∧ 0 < x * B) ∨ (x < 0 ∧ x * B < 0) := sg (by omega)
  have e2 : (y = 0 ∧ y * A = 0) ∨ (0 < y ∧ 0 < y * A) ∨ (y < 0 ∧ y * A < 0) := sg (by omega)
  generalize x * B = u at *
  generalize y * A = v at *
  rcases e1 with ⟨p1, q1⟩ | ⟨p1, q1⟩ | ⟨p1, q1⟩ <;> rcases e2 with ⟨p2, q2⟩ | ⟨p2, q2⟩ | ⟨p2, q2⟩ <;> omega
end
end K27
set_option maxHeartbeats 4000000
/-! onward, told by the edge that holds the strip. -/
namespace K27
structure Sd (s : List Int) : Prop where
  h3 : s.length = 3
  h1 : ∀ x ∈ s, 1 ≤ x
theorem Sd.abc {s : List Int} (h : Sd s) : ∃ A B C, s = [A, B, C] ∧ 1 ≤ A ∧ 1 ≤ B ∧ 1 ≤ C := by
  obtain ⟨A, B, C, rfl⟩ := len3 h.h3
  exact ⟨A, B, C, rfl, h.h1 A (by simp), h.h1 B (by simp), h.h1 C (by simp)⟩
theorem besidesL_of {f b : Int} (f0 : 0 ≤ f) (f6 : f < 6) (h0 : 0 ≤ b) (h6 : b < 6) (h : b / 2 ≠ f / 2) : b ∈ besidesL f := by
  unfold besidesL
  refine List.mem_map.mpr ⟨b.toNat, List.mem_filter.mpr ⟨List.mem_range.mpr (by omega), ?_⟩, by omega⟩
  have e : (0 : Int) + (b.toNat : Nat) = b := by omega
  rw [e, decide_eq_false h]
  rfl
theorem leavL_of {f b : Int} {d : List Int} (f0 : 0 ≤ f) (f6 : f < 6) (h0 : 0 ≤ b) (h6 : b < 6) (h : b / 2 ≠ f / 2) (ho : 0 < outw b d) : b ∈ leavL f d := List.mem_filter.mpr ⟨besidesL_of f0 f6 h0 h6 h, decide_eq_true ho⟩
theorem hold_uni {s d : List Int} {f lo hi b c : Int} (hs : Sd s) (f0 : 0 ≤ f) (f6 : f < 6) (hd : d.length = 3) (hl : lo < hi) (hb : b ∈ leavL f d) (hc : c ∈ leavL f d) (k1 : Hold s f d lo hi b) (k2 : Hold s f d lo hi c) : b = c := by
  obtain ⟨A, B, C, rfl, hA, hB, hC⟩ := hs.abc
  obtain ⟨x, y, z, rfl⟩ := len3 hd
  obtain ⟨b0, b6, bf, ob⟩ := leavL_b hb
  obtain ⟨c0, c6, cf, oc⟩ := leavL_b hc
  clear hb hc
  rcases six f0 f6 with rfl | rfl | rfl | rfl | rfl | rfl
  · have hb : b = 2 ∨ b = 3 ∨ b = 4 ∨ b = 5 := by omega
    have hc : c = 2 ∨ c = 3 ∨ c = 4 ∨ c = 5 := by omega
    rcases hb with rfl | rfl | rfl | rfl <;> rcases hc with rfl | rfl | rfl | rfl
    · rfl
    · exact (ov_023 hA hB hC hl ob oc k1 k2).elim
    · exact (ov_024 hA hB hC hl ob oc k1 k2).elim
    · exact (ov_025 hA hB hC hl ob oc k1 k2).elim
    · exact (ov_023 hA hB hC hl oc ob k2 k1).elim
    · rfl
    · exact (ov_034 hA hB hC hl ob oc k1 k2).elim
    · exact (ov_035 hA hB hC hl ob oc k1 k2).elim
    · exact (ov_024 hA hB hC hl oc ob k2 k1).elim
    · exact (ov_034 hA hB hC hl oc ob k2 k1).elim
    · rfl
    · exact (ov_045 hA hB hC hl ob oc k1 k2).elim
    · exact (ov_025 hA hB hC hl oc ob k2 k1).elim
    · exact (ov_035 hA hB hC hl oc ob k2 k1).elim
    · exact (ov_045 hA hB hC hl oc ob k2 k1).elim
    · rfl
  · have hb : b = 2 ∨ b = 3 ∨ b = 4 ∨ b = 5 := by omega
    have hc : c = 2 ∨ c = 3 ∨ c = 4 ∨ c = 5 := by omega
    rcases hb with rfl | rfl | rfl | rfl <;> rcases hc with rfl | rfl | rfl | rfl
    · rfl
    · exact (ov_123 hA hB hC hl ob oc k1 k2).elim
    · exact (ov_124 hA hB hC hl ob oc k1 k2).elim
    · exact (ov_125 hA hB hC hl ob oc k1 k2).elim
    · exact (ov_123 hA hB hC hl oc ob k2 k1).elim
    · rfl
    · exact (ov_134 hA hB hC hl ob oc k1 k2).elim
    · exact (ov_135 hA hB hC hl ob oc k1 k2).elim
    · exact (ov_124 hA hB hC hl oc ob k2 k1).elim
    · exact (ov_134 hA hB hC hl oc ob k2 k1).elim
    · rfl
    · exact (ov_145 hA hB hC hl ob oc k1 k2).elim
    · exact (ov_125 hA hB hC hl oc ob k2 k1).elim
    · exact (ov_135 hA hB hC hl oc ob k2 k1).elim
    · exact (ov_145 hA hB hC hl oc ob k2 k1).elim
    · rfl
  · have hb : b = 0 ∨ b = 1 ∨ b = 4 ∨ b = 5 := by omega
    have hc : c = 0 ∨ c = 1 ∨ c = 4 ∨ c = 5 := by omega
    rcases hb with rfl | rfl | rfl | rfl <;> rcases hc with rfl | rfl | rfl | rfl
    · rfl
    · exact (ov_201 hA hB hC hl ob oc k1 k2).elim
    · exact (ov_204 hA hB hC hl ob oc k1 k2).elim
    · exact (ov_205 hA hB hC hl ob oc k1 k2).elim
    · exact (ov_201 hA hB hC hl oc ob k2 k1).elim
    · rfl
    · exact (ov_214 hA hB hC hl ob oc k1 k2).elim
    · exact (ov_215 hA hB hC hl ob oc k1 k2).elim
    · exact (ov_204 hA hB hC hl oc ob k2 k1).elim
    · exact (ov_214 hA hB hC hl oc ob k2 k1).elim
    · rfl
    · exact (ov_245 hA hB hC hl ob oc k1 k2).elim
    · exact (ov_205 hA hB hC hl oc ob k2 k1).elim
    · exact (ov_215 hA hB hC hl oc ob k2 k1).elim
    · exact (ov_245 hA hB hC hl oc ob k2 k1).elim
    · rfl
  · have hb : b = 0 ∨ b = 1 ∨ b = 4 ∨ b = 5 := by omega
    have hc : c = 0 ∨ c = 1 ∨ c = 4 ∨ c = 5 := by omega
    rcases hb with rfl | rfl | rfl | rfl <;> rcases hc with rfl | rfl | rfl | rfl
    · rfl
    · exact (ov_301 hA hB hC hl ob oc k1 k2).elim
    · exact (ov_304 hA hB hC hl ob oc k1 k2).elim
    · exact (ov_305 hA hB hC hl ob oc k1 k2).elim
    · exact (ov_301 hA hB hC hl oc ob k2 k1).elim
    · rfl
    · exact (ov_314 hA hB hC hl ob oc k1 k2).elim
    · exact (ov_315 hA hB hC hl ob oc k1 k2).elim
    · exact (ov_304 hA hB hC hl oc ob k2 k1).elim
    · exact (ov_314 hA hB hC hl oc ob k2 k1).elim
    · rfl
    · exact (ov_345 hA hB hC hl ob oc k1 k2).elim
    · exact (ov_305 hA hB hC hl oc ob k2 k1).elim
    · exact (ov_315 hA hB hC hl oc ob k2 k1).elim
    · exact (ov_345 hA hB hC hl oc ob k2 k1).elim
    · rfl
  · have hb : b = 0 ∨ b = 1 ∨ b = 2 ∨ b = 3 := by omega
    have hc : c = 0 ∨ c = 1 ∨ c = 2 ∨ c = 3 := by omega
    rcases hb with rfl | rfl | rfl | rfl <;> rcases hc with rfl | rfl | rfl | rfl
    · rfl
    · exact (ov_401 hA hB hC hl ob oc k1 k2).elim
    · exact (ov_402 hA hB hC hl ob oc k1 k2).elim
    · exact (ov_403 hA hB hC hl ob oc k1 k2).elim
    · exact (ov_401 hA hB hC hl oc ob k2 k1).elim
    · rfl
    · exact (ov_412 hA hB hC hl ob oc k1 k2).elim
    · exact (ov_413 hA hB hC hl ob oc k1 k2).elim
    · exact (ov_402 hA hB hC hl oc ob k2 k1).elim
    · exact (ov_412 hA hB hC hl oc ob k2 k1).elim
    · rfl
    · exact (ov_423 hA hB hC hl ob oc k1 k2).elim
    · exact (ov_403 hA hB hC hl oc ob k2 k1).elim
    · exact (ov_413 hA hB hC hl oc ob k2 k1).elim
    · exact (ov_423 hA hB hC hl oc ob k2 k1).elim
    · rfl
  · have hb : b = 0 ∨ b = 1 ∨ b = 2 ∨ b = 3 := by omega
    have hc : c = 0 ∨ c = 1 ∨ c = 2 ∨ c = 3 := by omega
    rcases hb with rfl | rfl | rfl | rfl <;> rcases hc with rfl | rfl | rfl | rfl
    · rfl
    · exact (ov_501 hA hB hC hl ob oc k1 k2).elim
    · exact (ov_502 hA hB hC hl ob oc k1 k2).elim
    · exact (ov_503 hA hB hC hl ob oc k1 k2).elim
    · exact (ov_501 hA hB hC hl oc ob k2 k1).elim
    · rfl
    · exact (ov_512 hA hB hC hl ob oc k1 k2).elim
    · exact (ov_513 hA hB hC hl ob oc k1 k2).elim
    · exact (ov_502 hA hB hC hl oc ob k2 k1).elim
    · exact (ov_512 hA hB hC hl oc ob k2 k1).elim
    · rfl
    · exact (ov_523 hA hB hC hl ob oc k1 k2).elim
    · exact (ov_503 hA hB hC hl oc ob k2 k1).elim
    · exact (ov_513 hA hB hC hl oc ob k2 k1).elim
    · exact (ov_523 hA hB hC hl oc ob k2 k1).elim
    · rfl
theorem cov {s d : List Int} {f k : Int} (hs : Sd s) (f0 : 0 ≤ f) (f6 : f < 6) (hd : d.length = 3) (hn : gi d (a1 f) ≠ 0 ∨ gi d (a2 f) ≠ 0) (h1 : lstMin (toldM s f d) ≤ k) (h2 : k + 1 ≤ lstMax (toldM s f d)) : ∃ b ∈ leavL f d, Hold s f d k (k + 1) b := by
  obtain ⟨A, B, C, rfl, hA, hB, hC⟩ := hs.abc
  obtain ⟨x, y, z, rfl⟩ := len3 hd
  rcases six f0 f6 with rfl | rfl | rfl | rfl | rfl | rfl
  · rcases cov_0 hA hB hC hn h1 h2 with ⟨o, h⟩ | ⟨o, h⟩ | ⟨o, h⟩ | ⟨o, h⟩
    · exact ⟨2, leavL_of (by decide) (by decide) (by decide) (by decide) (by decide) o, h⟩
    · exact ⟨3, leavL_of (by decide) (by decide) (by decide) (by decide) (by decide) o, h⟩
    · exact ⟨4, leavL_of (by decide) (by decide) (by decide) (by decide) (by decide) o, h⟩
    · exact ⟨5, leavL_of (by decide) (by decide) (by decide) (by decide) (by decide) o, h⟩
  · rcases cov_1 hA hB hC hn h1 h2 with ⟨o, h⟩ | ⟨o, h⟩ | ⟨o, h⟩ | ⟨o, h⟩
    · exact ⟨2, leavL_of (by decide) (by decide) (by decide) (by decide) (by decide) o, h⟩
    · exact ⟨3, leavL_of (by decide) (by decide) (by decide) (by decide) (by decide) o, h⟩
    · exact ⟨4, leavL_of (by decide) (by decide) (by decide) (by decide) (by decide) o, h⟩
    · exact ⟨5, leavL_of (by decide) (by decide) (by decide) (by decide) (by decide) o, h⟩
  · rcases cov_2 hA hB hC hn h1 h2 with ⟨o, h⟩ | ⟨o, h⟩ | ⟨o, h⟩ | ⟨o, h⟩
    · exact ⟨0, leavL_of (by decide) (by decide) (by decide) (by decide) (by decide) o, h⟩
    · exact ⟨1, leavL_of (by decide) (by decide) (by decide) (by decide) (by decide) o, h⟩
    · exact ⟨4, leavL_of (by decide) (by decide) (by decide) (by decide) (by decide) o, h⟩
    · exact ⟨5, leavL_of (by decide) (by decide) (by decide) (by decide) (by decide) o, h⟩
  · rcases cov_3 hA hB hC hn h1 h2 with ⟨o, h⟩ | ⟨o, h⟩ | ⟨o, h⟩ | ⟨o, h⟩
    · exact ⟨0, leavL_of (by decide) (by decide) (by decide) (by decide) (by decide) o, h⟩
    · exact ⟨1, leavL_of (by decide) (by decide) (by decide) (by decide) (by decide) o, h⟩
    · exact ⟨4, leavL_of (by decide) (by decide) (by decide) (by decide) (by decide) o, h⟩
    · exact ⟨5, leavL_of (by decide) (by decide) (by decide) (by decide) (by decide) o, h⟩
  · rcases cov_4 hA hB hC hn h1 h2 with ⟨o, h⟩ | ⟨o, h⟩ | ⟨o, h⟩ | ⟨o, h⟩
    · exact ⟨0, leavL_of (by decide) (by decide) (by decide) (by decide) (by decide) o, h⟩
    · exact ⟨1, leavL_of (by decide) (by decide) (by decide) (by decide) (by decide) o, h⟩
    · exact ⟨2, leavL_of (by decide) (by decide) (by decide) (by decide) (by decide) o, h⟩
    · exact ⟨3, leavL_of (by decide) (by decide) (by decide) (by decide) (by decide) o, h⟩
  · rcases cov_5 hA hB hC hn h1 h2 with ⟨o, h⟩ | ⟨o, h⟩ | ⟨o, h⟩ | ⟨o, h⟩
    · exact ⟨0, leavL_of (by decide) (by decide) (by decide) (by decide) (by decide) o, h⟩
    · exact ⟨1, leavL_of (by decide) (by decide) (by decide) (by decide) (by decide) o, h⟩
    · exact ⟨2, leavL_of (by decide) (by decide) (by decide) (by decide) (by decide) o, h⟩
    · exact ⟨3, leavL_of (by decide) (by decide) (by decide) (by decide) (by decide) o, h⟩
def gr (s : List Int) (f b : Int) (d : List Int) : Int := end0 s b f (goneM f b d) - end0 s f b d
theorem fstM_uni {α : Type} {t : Int → Option α} {b : Int} {x : α} : ∀ {l : List Int}, (∀ c ∈ l, ∀ y, t c = some y → c = b) → b ∈ l → t b = some x → fstM t l = some x
  | [], _, h, _ => nomatch h
  | c :: r, hu, h, e => by
    unfold fstM
    cases q : t c with
    | some y =>
      have := hu c List.mem_cons_self y q
      subst this
      rw [← q, e]
    | none =>
      rcases List.mem_cons.mp h with rfl | h
      · rw [q] at e
        cases e
      · exact fstM_uni (fun c hc => hu c (List.mem_cons_of_mem _ hc)) h e
theorem fstM_some {α : Type} {t : Int → Option α} {x : α} : ∀ {l : List Int}, fstM t l = some x → ∃ b ∈ l, t b = some x
  | [], h => by cases h
  | c :: r, h => by
    unfold fstM at h
    cases q : t c with
    | some y =>
      rw [q] at h
      exact ⟨c, List.mem_cons_self, by rw [q]; exact h⟩
    | none =>
      rw [q] at h
      obtain ⟨b, hb, e⟩ := fstM_some h
      exact ⟨b, List.mem_cons_of_mem _ hb, e⟩
theorem onwT_hold {s d : List Int} {f lo hi b : Int} (h : Hold s f d lo hi b) : onwT s f d lo hi b = some (b, goneM f b d, lo + gr s f b d, hi + gr s f b d) := by
  unfold onwT
  exact if_pos h
theorem onwT_some {s d : List Int} {f lo hi b : Int} {z : Int × List Int × Int × Int} (h : onwT s f d lo hi b = some z) : Hold s f d lo hi b ∧ z = (b, goneM f b d, lo + gr s f b d, hi + gr s f b d) := by
  unfold onwT at h
  split at h
  · rename_i q
    exact ⟨q, (Option.some.inj h).symm⟩
  · cases h
theorem onw_eq {s d : List Int} {f lo hi b : Int} (hs : Sd s) (f0 : 0 ≤ f) (f6 : f < 6) (hd : d.length = 3) (hl : lo < hi) (hb : b ∈ leavL f d) (h : Hold s f d lo hi b) : onwM s f d lo hi = some (b, goneM f b d, lo + gr s f b d, hi + gr s f b d) :=
  fstM_uni (fun c hc y e => hold_uni hs f0 f6 hd hl hc hb (onwT_some e).1 h) hb (onwT_hold h)
theorem onw_some {s d : List Int} {f lo hi : Int} {z : Int × List Int × Int × Int} (h : onwM s f d lo hi = some z) : ∃ b ∈ leavL f d, Hold s f d lo hi b ∧ z = (b, goneM f b d, lo + gr s f b d, hi + gr s f b d) := by
  obtain ⟨b, hb, e⟩ := fstM_some h
  exact ⟨b, hb, onwT_some e⟩
theorem onw_none {s d : List Int} {f lo hi b : Int} (h : onwM s f d lo hi = none) (hs : Sd s) (f0 : 0 ≤ f) (f6 : f < 6) (hd : d.length = 3) (hl : lo < hi) (hb : b ∈ leavL f d) : ¬ Hold s f d lo hi b := fun q => by
  rw [onw_eq hs f0 f6 hd hl hb q] at h
  cases h
theorem hold_sub {s d : List Int} {f lo hi lo' hi' b : Int} (h : Hold s f d lo hi b) (h1 : lo ≤ lo') (h2 : hi' ≤ hi) : Hold s f d lo' hi' b := ⟨Int.le_trans h.1 h1, Int.le_trans h2 h.2⟩
theorem hold_join {s d : List Int} {f lo hi lo' hi' b : Int} (h : Hold s f d lo lo' b) (h2 : Hold s f d hi' hi b) : Hold s f d lo hi b := ⟨h.1, h2.2⟩
end K27
set_option maxHeartbeats 4000000
/-! Going on and coming back. -/
namespace K27
structure Bk (s : List Int) (f b : Int) (d : List Int) : Prop where
  ow : outw f (negL (goneM f b d)) = outw b d
  gn : goneM b f (negL (goneM f b d)) = negL d
  e0 : end0 s b f (negL (goneM f b d)) = -(end0 s b f (goneM f b d))
  e0' : end0 s f b (negL d) = -(end0 s f b d)
  ln : end1 s b f (negL (goneM f b d)) - end0 s b f (negL (goneM f b d)) = -(end1 s f b d - end0 s f b d)
section
variable {A B C x y z : Int}
theorem bk_02 : Bk [A, B, C] 0 2 [0, y, z] := by
  have e : ∀ u v w : Int, negL [u, v, w] = [-u, -v, -w] := fun _ _ _ => rfl
  refine ⟨?_, ?_, ?_, ?_, ?_⟩
  · rw [gone_02, e, outw_0, outw_2]
    omega
  · rw [gone_02, e, gone_20, e]
    simp only [Int.neg_mul, Int.neg_neg, Int.zero_mul, Int.neg_zero, Int.sub_zero, Int.zero_sub, Int.add_zero, Int.zero_add]
  · rw [gone_02, e, end0_20, end0_20]
    simp only [Int.neg_mul, Int.neg_neg, Int.zero_mul, Int.neg_zero, Int.sub_zero, Int.zero_sub, Int.add_zero, Int.zero_add] <;> omega
  · rw [e, end0_02, end0_02]
    simp only [Int.neg_mul, Int.neg_neg, Int.zero_mul, Int.neg_zero, Int.sub_zero, Int.zero_sub, Int.add_zero, Int.zero_add] <;> omega
  · rw [gone_02, e, end0_20, end1_20, end0_02, end1_02]
    simp only [Int.neg_mul, Int.neg_neg, Int.zero_mul, Int.neg_zero, Int.sub_zero, Int.zero_sub, Int.add_zero, Int.zero_add] <;> omega
theorem bk_03 : Bk [A, B, C] 0 3 [0, y, z] := by
  have e : ∀ u v w : Int, negL [u, v, w] = [-u, -v, -w] := fun _ _ _ => rfl
  refine ⟨?_, ?_, ?_, ?_, ?_⟩
  · rw [gone_03, e, outw_0, outw_3]
    omega
  · rw [gone_03, e, gone_30, e]
    simp only [Int.neg_mul, Int.neg_neg, Int.zero_mul, Int.neg_zero, Int.sub_zero, Int.zero_sub, Int.add_zero, Int.zero_add]
  · rw [gone_03, e, end0_30, end0_30]
    simp only [Int.neg_mul, Int.neg_neg, Int.zero_mul, Int.neg_zero, Int.sub_zero, Int.zero_sub, Int.add_zero, Int.zero_add] <;> omega
  · rw [e, end0_03, end0_03]
    simp only [Int.neg_mul, Int.neg_neg, Int.zero_mul, Int.neg_zero, Int.sub_zero, Int.zero_sub, Int.add_zero, Int.zero_add] <;> omega
  · rw [gone_03, e, end0_30, end1_30, end0_03, end1_03]
    simp only [Int.neg_mul, Int.neg_neg, Int.zero_mul, Int.neg_zero, Int.sub_zero, Int.zero_sub, Int.add_zero, Int.zero_add] <;> omega
theorem bk_04 : Bk [A, B, C] 0 4 [0, y, z] := by
  have e : ∀ u v w : Int, negL [u, v, w] = [-u, -v, -w] := fun _ _ _ => rfl
  refine ⟨?_, ?_, ?_, ?_, ?_⟩
  · rw [gone_04, e, outw_0, outw_4]
    omega
  · rw [gone_04, e, gone_40, e]
    simp only [Int.neg_mul, Int.neg_neg, Int.zero_mul, Int.neg_zero, Int.sub_zero, Int.zero_sub, Int.add_zero, Int.zero_add]
  · rw [gone_04, e, end0_40, end0_40]
    simp only [Int.neg_mul, Int.neg_neg, Int.zero_mul, Int.neg_zero, Int.sub_zero, Int.zero_sub, Int.add_zero, Int.zero_add] <;> omega
  · rw [e, end0_04, end0_04]
    simp only [Int.neg_mul, Int.neg_neg, Int.zero_mul, Int.neg_zero, Int.sub_zero, Int.zero_sub, Int.add_zero, Int.zero_add] <;> omega
  · rw [gone_04, e, end0_40, end1_40, end0_04, end1_04]
    simp only [Int.neg_mul, Int.neg_neg, Int.zero_mul, Int.neg_zero, Int.sub_zero, Int.zero_sub, Int.add_zero, Int.zero_add] <;> omega
theorem bk_05 : Bk [A, B, C] 0 5 [0, y, z] := by
  have e : ∀ u v w : Int, negL [u, v, w] = [-u, -v, -w] := fun _ _ _ => rfl
  refine ⟨?_, ?_, ?_, ?_, ?_⟩
  · rw [gone_05, e, outw_0, outw_5]
    omega
  · rw [gone_05, e, gone_50, e]
    simp only [Int.neg_mul, Int.neg_neg, Int.zero_mul, Int.neg_zero, Int.sub_zero, Int.zero_sub, Int.add_zero, Int.zero_add]
  · rw [gone_05, e, end0_50, end0_50]
    simp only [Int.neg_mul, Int.neg_neg, Int.zero_mul, Int.neg_zero, Int.sub_zero, Int.zero_sub, Int.add_zero, Int.zero_add] <;> omega
  · rw [e, end0_05, end0_05]
    simp only [Int.neg_mul, Int.neg_neg, Int.zero_mul, Int.neg_zero, Int.sub_zero, Int.zero_sub, Int.add_zero, Int.zero_add] <;> omega
  · rw [gone_05, e, end0_50, end1_50, end0_05, end1_05]
    simp only [Int.neg_mul, Int.neg_neg, Int.zero_mul, Int.neg_zero, Int.sub_zero, Int.zero_sub, Int.add_zero, Int.zero_add] <;> omega
theorem bk_12 : Bk [A, B, C] 1 2 [0, y, z] := by
  have e : ∀ u v w : Int, negL [u, v, w] = [-u, -v, -w] := fun _ _ _ => rfl
  refine ⟨?_, ?_, ?_, ?_, ?_⟩
  · rw [gone_12, e, outw_1, outw_2]
    omega
  · rw [gone_12, e, gone_21, e]
    simp only [Int.neg_mul, Int.neg_neg, Int.zero_mul, Int.neg_zero, Int.sub_zero, Int.zero_sub, Int.add_zero, Int.zero_add]
  · rw [gone_12, e, end0_21, end0_21]
    simp only [Int.neg_mul, Int.neg_neg, Int.zero_mul, Int.neg_zero, Int.sub_zero, Int.zero_sub, Int.add_zero, Int.zero_add] <;> omega
  · rw [e, end0_12, end0_12]
    simp only [Int.neg_mul, Int.neg_neg, Int.zero_mul, Int.neg_zero, Int.sub_zero, Int.zero_sub, Int.add_zero, Int.zero_add] <;> omega
  · rw [gone_12, e, end0_21, end1_21, end0_12, end1_12]
    simp only [Int.neg_mul, Int.neg_neg, Int.zero_mul, Int.neg_zero, Int.sub_zero, Int.zero_sub, Int.add_zero, Int.zero_add] <;> omega
theorem bk_13 : Bk [A, B, C] 1 3 [0, y, z] := by
  have e : ∀ u v w : Int, negL [u, v, w] = [-u, -v, -w] := fun _ _ _ => rfl
  refine ⟨?_, ?_, ?_, ?_, ?_⟩
  · rw [gone_13, e, outw_1, outw_3]
    omega
  · rw [gone_13, e, gone_31, e]
    simp only [Int.neg_mul, Int.neg_neg, Int.zero_mul, Int.neg_zero, Int.sub_zero, Int.zero_sub, Int.add_zero, Int.zero_add]
  · rw [gone_13, e, end0_31, end0_31]
    simp only [Int.neg_mul, Int.neg_neg, Int.zero_mul, Int.neg_zero, Int.sub_zero, Int.zero_sub, Int.add_zero, Int.zero_add] <;> omega
  · rw [e, end0_13, end0_13]
    simp only [Int.neg_mul, Int.neg_neg, Int.zero_mul, Int.neg_zero, Int.sub_zero, Int.zero_sub, Int.add_zero, Int.zero_add] <;> omega
  · rw [gone_13, e, end0_31, end1_31, end0_13, end1_13]
    simp only [Int.neg_mul, Int.neg_neg, Int.zero_mul, Int.neg_zero, Int.sub_zero, Int.zero_sub, Int.add_zero, Int.zero_add] <;> omega
theorem bk_14 : Bk [A, B, C] 1 4 [0, y, z] := by
  have e : ∀ u v w : Int, negL [u, v, w] = [-u, -v, -w] := fun _ _ _ => rfl
  refine ⟨?_, ?_, ?_, ?_, ?_⟩
  · rw [gone_14, e, outw_1, outw_4]
    omega
  · rw [gone_14, e, gone_41, e]
    simp only [Int.neg_mul, Int.neg_neg, Int.zero_mul, Int.neg_zero, Int.sub_zero, Int.zero_sub, Int.add_zero, Int.zero_add]
  · rw [gone_14, e, end0_41, end0_41]
    simp only [Int.neg_mul, Int.neg_neg, Int.zero_mul, Int.neg_zero, Int.sub_zero, Int.zero_sub, Int.add_zero, Int.zero_add] <;> omega
  · rw [e, end0_14, end0_14]
    simp only [Int.neg_mul, Int.neg_neg, Int.zero_mul, Int.neg_zero, Int.sub_zero, Int.zero_sub, Int.add_zero, Int.zero_add] <;> omega
  · rw [gone_14, e, end0_41, end1_41, end0_14, end1_14]
    simp only [Int.neg_mul, Int.neg_neg, Int.zero_mul, Int.neg_zero, Int.sub_zero, Int.zero_sub, Int.add_zero, Int.zero_add] <;> omega
theorem bk_15 : Bk [A, B, C] 1 5 [0, y, z] := by
  have e : ∀ u v w : Int, negL [u, v, w] = [-u, -v, -w] := fun _ _ _ => rfl
  refine ⟨?_, ?_, ?_, ?_, ?_⟩
  · rw [gone_15, e, outw_1, outw_5]
    omega
  · rw [gone_15, e, gone_51, e]
    simp only [Int.neg_mul, Int.neg_neg, Int.zero_mul, Int.neg_zero, Int.sub_zero, Int.zero_sub, Int.add_zero, Int.zero_add]
  · rw [gone_15, e, end0_51, end0_51]
    simp only [Int.neg_mul, Int.neg_neg, Int.zero_mul, Int.neg_zero, Int.sub_zero, Int.zero_sub, Int.add_zero, Int.zero_add] <;> omega
  · rw [e, end0_15, end0_15]
    simp only [Int.neg_mul, Int.neg_neg, Int.zero_mul, Int.neg_zero, Int.sub_zero, Int.zero_sub, Int.add_zero, Int.zero_add] <;> omega
  · rw [gone_15, e, end0_51, end1_51, end0_15, end1_15]
    simp only [Int.neg_mul, Int.neg_neg, Int.zero_mul, Int.neg_zero, Int.sub_zero, Int.zero_sub, Int.add_zero, Int.zero_add] <;> omega
theorem bk_20 : Bk [A, B, C] 2 0 [x, 0, z] := by
  have e : ∀ u v w : Int, negL [u, v, w] = [-u, -v, -w] := fun _ _ _ => rfl
  refine ⟨?_, ?_, ?_, ?_, ?_⟩
  · rw [gone_20, e, outw_2, outw_0]
    omega
  · rw [gone_20, e, gone_02, e]
    simp only [Int.neg_mul, Int.neg_neg, Int.zero_mul, Int.neg_zero, Int.sub_zero, Int.zero_sub, Int.add_zero, Int.zero_add]
  · rw [gone_20, e, end0_02, end0_02]
    simp only [Int.neg_mul, Int.neg_neg, Int.zero_mul, Int.neg_zero, Int.sub_zero, Int.zero_sub, Int.add_zero, Int.zero_add] <;> omega
  · rw [e, end0_20, end0_20]
    simp only [Int.neg_mul, Int.neg_neg, Int.zero_mul, Int.neg_zero, Int.sub_zero, Int.zero_sub, Int.add_zero, Int.zero_add] <;> omega
  · rw [gone_20, e, end0_02, end1_02, end0_20, end1_20]
    simp only [Int.neg_mul, Int.neg_neg, Int.zero_mul, Int.neg_zero, Int.sub_zero, Int.zero_sub, Int.add_zero, Int.zero_add] <;> omega
theorem bk_21 : Bk [A, B, C] 2 1 [x, 0, z] := by
  have e : ∀ u v w : Int, negL [u, v, w] = [-u, -v, -w] := fun _ _ _ => rfl
  refine ⟨?_, ?_, ?_, ?_, ?_⟩
  · rw [gone_21, e, outw_2, outw_1]
    omega
  · rw [gone_21, e, gone_12, e]
    simp only [Int.neg_mul, Int.neg_neg, Int.zero_mul, Int.neg_zero, Int.sub_zero, Int.zero_sub, Int.add_zero, Int.zero_add]
  · rw [gone_21, e, end0_12, end0_12]
    simp only [Int.neg_mul, Int.neg_neg, Int.zero_mul, Int.neg_zero, Int.sub_zero, Int.zero_sub, Int.add_zero, Int.zero_add] <;> omega
  · rw [e, end0_21, end0_21]
    simp only [Int.neg_mul, Int.neg_neg, Int.zero_mul, Int.neg_zero, Int.sub_zero, Int.zero_sub, Int.add_zero, Int.zero_add] <;> omega
  · rw [gone_21, e, end0_12, end1_12, end0_21, end1_21]
    simp only [Int.neg_mul, Int.neg_neg, Int.zero_mul, Int.neg_zero, Int.sub_zero, Int.zero_sub, Int.add_zero, Int.zero_add] <;> omega
theorem bk_24 : Bk [A, B, C] 2 4 [x, 0, z] := by
  have e : ∀ u v w : Int, negL [u, v, w] = [-u, -v, -w] := fun _ _ _ => rfl
  refine ⟨?_, ?_, ?_, ?_, ?_⟩
  · rw [gone_24, e, outw_2, outw_4]
    omega
  · rw [gone_24, e, gone_42, e]
    simp only [Int.neg_mul, Int.neg_neg, Int.zero_mul, Int.neg_zero, Int.sub_zero, Int.zero_sub, Int.add_zero, Int.zero_add]
  · rw [gone_24, e, end0_42, end0_42]
    simp only [Int.neg_mul, Int.neg_neg, Int.zero_mul, Int.neg_zero, Int.sub_zero, Int.zero_sub, Int.add_zero, Int.zero_add] <;> omega
  · rw [e, end0_24, end0_24]
    simp only [Int.neg_mul, Int.neg_neg, Int.zero_mul, Int.neg_zero, Int.sub_zero, Int.zero_sub, Int.add_zero, Int.zero_add] <;> omega
  · rw [gone_24, e, end0_42, end1_42, end0_24, end1_24]
    simp only [Int.neg_mul, Int.neg_neg, Int.zero_mul, Int.neg_zero, Int.sub_zero, Int.zero_sub, Int.add_zero, Int.zero_add] <;> omega
theorem bk_25 : Bk [A, B, C] 2 5 [x, 0, z] := by
  have e : ∀ u v w : Int, negL [u, v, w] = [-u, -v, -w] := fun _ _ _ => rfl
  refine ⟨?_, ?_, ?_, ?_, ?_⟩
  · rw [gone_25, e, outw_2, outw_5]
    omega
  · rw [gone_25, e, gone_52, e]
    simp only [Int.neg_mul, Int.neg_neg, Int.zero_mul, Int.neg_zero, Int.sub_zero, Int.zero_sub, Int.add_zero, Int.zero_add]
  · rw [gone_25, e, end0_52, end0_52]
    simp only [Int.neg_mul, Int.neg_neg, Int.zero_mul, Int.neg_zero, Int.sub_zero, Int.zero_sub, Int.add_zero, Int.zero_add] <;> omega
  · rw [e, end0_25, end0_25]
    simp only [Int.neg_mul, Int.neg_neg, Int.zero_mul, Int.neg_zero, Int.sub_zero, Int.zero_sub, Int.add_zero, Int.zero_add] <;> omega
  · rw [gone_25, e, end0_52, end1_52, end0_25, end1_25]
    simp only [Int.neg_mul, Int.neg_neg, Int.zero_mul, Int.neg_zero, Int.sub_zero, Int.zero_sub, Int.add_zero, Int.zero_add] <;> omega
theorem bk_30 : Bk [A, B, C] 3 0 [x, 0, z] := by
  have e : ∀ u v w : Int, negL [u, v, w] = [-u, -v, -w] := fun _ _ _ => rfl
  refine ⟨?_, ?_, ?_, ?_, ?_⟩
  · rw [gone_30, e, outw_3, outw_0]
    omega
  · rw [gone_30, e, gone_03, e]
    simp only [Int.neg_mul, Int.neg_neg, Int.zero_mul, Int.neg_zero, Int.sub_zero, Int.zero_sub, Int.add_zero, Int.zero_add]
  · rw [gone_30, e, end0_03, end0_03]
    simp only [Int.neg_mul, Int.neg_neg, Int.zero_mul, Int.neg_zero, Int.sub_zero, Int.zero_sub, Int.add_zero, Int.zero_add] <;> omega
  · rw [e, end0_30, end0_30]
    simp only [Int.neg_mul, Int.neg_neg, Int.zero_mul, Int.neg_zero, Int.sub_zero, Int.zero_sub, Int.add_zero, Int.zero_add] <;> omega
  · rw [gone_30, e, end0_03, end1_03, end0_30, end1_30]
    simp only [Int.neg_mul, Int.neg_neg, Int.zero_mul, Int.neg_zero, Int.sub_zero, Int.zero_sub, Int.add_zero, Int.zero_add] <;> omega
theorem bk_31 : Bk [A, B, C] 3 1 [x, 0, z] := by
  have e : ∀ u v w : Int, negL [u, v, w] = [-u, -v, -w] := fun _ _ _ => rfl
  refine ⟨?_, ?_, ?_, ?_, ?_⟩
  · rw [gone_31, e, outw_3, outw_1]
    omega
  · rw [gone_31, e, gone_13, e]
    simp only [Int.neg_mul, Int.neg_neg, Int.zero_mul, Int.neg_zero, Int.sub_zero, Int.zero_sub, Int.add_zero, Int.zero_add]
  · rw [gone_31, e, end0_13, end0_13]
    simp only [Int.neg_mul, Int.neg_neg, Int.zero_mul, Int.neg_zero, Int.sub_zero, Int.zero_sub, Int.add_zero, Int.zero_add] <;> omega
  · rw [e, end0_31, end0_31]
    simp only [Int.neg_mul, Int.neg_neg, Int.zero_mul, Int.neg_zero, Int.sub_zero, Int.zero_sub, Int.add_zero, Int.zero_add] <;> omega
  · rw [gone_31, e, end0_13, end1_13, end0_31, end1_31]
    simp only [Int.neg_mul, Int.neg_neg, Int.zero_mul, Int.neg_zero, Int.sub_zero, Int.zero_sub, Int.add_zero, Int.zero_add] <;> omega
theorem bk_34 : Bk [A, B, C] 3 4 [x, 0, z] := by
  have e : ∀ u v w : Int, negL [u, v, w] = [-u, -v, -w] := fun _ _ _ => rfl
  refine ⟨?_, ?_, ?_, ?_, ?_⟩
  · rw [gone_34, e, outw_3, outw_4]
    omega
  · rw [gone_34, e, gone_43, e]
    simp only [Int.neg_mul, Int.neg_neg, Int.zero_mul, Int.neg_zero, Int.sub_zero, Int.zero_sub, Int.add_zero, Int.zero_add]
  · rw [gone_34, e, end0_43, end0_43]
    simp only [Int.neg_mul, Int.neg_neg, Int.zero_mul, Int.neg_zero, Int.sub_zero, Int.zero_sub, Int.add_zero, Int.zero_add] <;> omega
  · rw [e, end0_34, end0_34]
    simp only [Int.neg_mul, Int.neg_neg, Int.zero_mul, Int.neg_zero, Int.sub_zero, Int.zero_sub, Int.add_zero, Int.zero_add] <;> omega
  · rw [gone_34, e, end0_43, end1_43, end0_34, end1_34]
    simp only [Int.neg_mul, Int.neg_neg, Int.zero_mul, Int.neg_zero, Int.sub_zero, Int.zero_sub, Int.add_zero, Int.zero_add] <;> omega
theorem bk_35 : Bk [A, B, C] 3 5 [x, 0, z] := by
  have e : ∀ u v w : Int, negL [u, v, w] = [-u, -v, -w] := fun _ _ _ => rfl
  refine ⟨?_, ?_, ?_, ?_, ?_⟩
  · rw [gone_35, e, outw_3, outw_5]
    omega
  · rw [gone_35, e, gone_53, e]
    simp only [Int.neg_mul, Int.neg_neg, Int.zero_mul, Int.neg_zero, Int.sub_zero, Int.zero_sub, Int.add_zero, Int.zero_add]
  · rw [gone_35, e, end0_53, end0_53]
    simp only [Int.neg_mul, Int.neg_neg, Int.zero_mul, Int.neg_zero, Int.sub_zero, Int.zero_sub, Int.add_zero, Int.zero_add] <;> omega
  · rw [e, end0_35, end0_35]
    simp only [Int.neg_mul, Int.neg_neg, Int.zero_mul, Int.neg_zero, Int.sub_zero, Int.zero_sub, Int.add_zero, Int.zero_add] <;> omega
  · rw [gone_35, e, end0_53, end1_53, end0_35, end1_35]
    simp only [Int.neg_mul, Int.neg_neg, Int.zero_mul, Int.neg_zero, Int.sub_zero, Int.zero_sub, Int.add_zero, Int.zero_add] <;> omega
theorem bk_40 : Bk [A, B, C] 4 0 [x, y, 0] := by
  have e : ∀ u v w : Int, negL [u, v, w] = [-u, -v, -w] := fun _ _ _ => rfl
  refine ⟨?_, ?_, ?_, ?_, ?_⟩
  · rw [gone_40, e, outw_4, outw_0]
    omega
  · rw [gone_40, e, gone_04, e]
    simp only [Int.neg_mul, Int.neg_neg, Int.zero_mul, Int.neg_zero, Int.sub_zero, Int.zero_sub, Int.add_zero, Int.zero_add]
  · rw [gone_40, e, end0_04, end0_04]
    simp only [Int.neg_mul, Int.neg_neg, Int.zero_mul, Int.neg_zero, Int.sub_zero, Int.zero_sub, Int.add_zero, Int.zero_add] <;> omega
  · rw [e, end0_40, end0_40]
    simp only [Int.neg_mul, Int.neg_neg, Int.zero_mul, Int.neg_zero, Int.sub_zero, Int.zero_sub, Int.add_zero, Int.zero_add] <;> omega
  · rw [gone_40, e, end0_04, end1_04, end0_40, end1_40]
    simp only [Int.neg_mul, Int.neg_neg, Int.zero_mul, Int.neg_zero, Int.sub_zero, Int.zero_sub, Int.add_zero, Int.zero_add] <;> omega
theorem bk_41 : Bk [A, B, C] 4 1 [x, y, 0] := by
  have e : ∀ u v w : Int, negL [u, v, w] = [-u, -v, -w] := fun _ _ _ => rfl
  refine ⟨?_, ?_, ?_, ?_, ?_⟩
  · rw [gone_41, e, outw_4, outw_1]
    omega
  · rw [gone_41, e, gone_14, e]
    simp only [Int.neg_mul, Int.neg_neg, Int.zero_mul, Int.neg_zero, Int.sub_zero, Int.zero_sub, Int.add_zero, Int.zero_add]
  · rw [gone_41, e, end0_14, end0_14]
    simp only [Int.neg_mul, Int.neg_neg, Int.zero_mul, Int.neg_zero, Int.sub_zero, Int.zero_sub, Int.add_zero, Int.zero_add] <;> omega
  · rw [e, end0_41, end0_41]
    simp only [Int.neg_mul, Int.neg_neg, Int.zero_mul, Int.neg_zero, Int.sub_zero, Int.zero_sub, Int.add_zero, Int.zero_add] <;> omega
  · rw [gone_41, e, end0_14, end1_14, end0_41, end1_41]
    simp only [Int.neg_mul, Int.neg_neg, Int.zero_mul, Int.neg_zero, Int.sub_zero, Int.zero_sub, Int.add_zero, Int.zero_add] <;> omega
theorem bk_42 : Bk [A, B, C] 4 2 [x, y, 0] := by
  have e : ∀ u v w : Int, negL [u, v, w] = [-u, -v, -w] := fun _ _ _ => rfl
  refine ⟨?_, ?_, ?_, ?_, ?_⟩
  · rw [gone_42, e, outw_4, outw_2]
    omega
  · rw [gone_42, e, gone_24, e]
    simp only [Int.neg_mul, Int.neg_neg, Int.zero_mul, Int.neg_zero, Int.sub_zero, Int.zero_sub, Int.add_zero, Int.zero_add]
  · rw [gone_42, e, end0_24, end0_24]
    simp only [Int.neg_mul, Int.neg_neg, Int.zero_mul, Int.neg_zero, Int.sub_zero, Int.zero_sub, Int.add_zero, Int.zero_add] <;> omega
  · rw [e, end0_42, end0_42]
    simp only [Int.neg_mul, Int.neg_neg, Int.zero_mul, Int.neg_zero, Int.sub_zero, Int.zero_sub, Int.add_zero, Int.zero_add] <;> omega
  · rw [gone_42, e, end0_24, end1_24, end0_42, end1_42]
    simp only [Int.neg_mul, Int.neg_neg, Int.zero_mul, Int.neg_zero, Int.sub_zero, Int.zero_sub, Int.add_zero, Int.zero_add] <;> omega
theorem bk_43 : Bk [A, B, C] 4 3 [x, y, 0] := by
  have e : ∀ u v w : Int, negL [u, v, w] = [-u, -v, -w] := fun _ _ _ => rfl
  refine ⟨?_, ?_, ?_, ?_, ?_⟩
  · rw [gone_43, e, outw_4, outw_3]
    omega
  · rw [gone_43, e, gone_34, e]
    simp only [Int.neg_mul, Int.neg_neg, Int.zero_mul, Int.neg_zero, Int.sub_zero, Int.zero_sub, Int.add_zero, Int.zero_add]
  · rw [gone_43, e, end0_34, end0_34]
    simp only [Int.neg_mul, Int.neg_neg, Int.zero_mul, Int.neg_zero, Int.sub_zero, Int.zero_sub, Int.add_zero, Int.zero_add] <;> omega
  · rw [e, end0_43, end0_43]
    simp only [Int.neg_mul, Int.neg_neg, Int.zero_mul, Int.neg_zero, Int.sub_zero, Int.zero_sub, Int.add_zero, Int.zero_add] <;> omega
  · rw [gone_43, e, end0_34, end1_34, end0_43, end1_43]
    simp only [Int.neg_mul, Int.neg_neg, Int.zero_mul, Int.neg_zero, Int.sub_zero, Int.zero_sub, Int.add_zero, Int.zero_add] <;> omega
theorem bk_50 : Bk [A, B, C] 5 0 [x, y, 0] := by
  have e : ∀ u v w : Int, negL [u, v, w] = [-u, -v, -w] := fun _ _ _ => rfl
  refine ⟨?_, ?_, ?_, ?_, ?_⟩
  · rw [gone_50, e, outw_5, outw_0]
    omega
  · rw [gone_50, e, gone_05, e]
    simp only [Int.neg_mul, Int.neg_neg, Int.zero_mul, Int.neg_zero, Int.sub_zero, Int.zero_sub, Int.add_zero, Int.zero_add]
  · rw [gone_50, e, end0_05, end0_05]
    simp only [Int.neg_mul, Int.neg_neg, Int.zero_mul, Int.neg_zero, Int.sub_zero, Int.zero_sub, Int.add_zero, Int.zero_add] <;> omega
  · rw [e, end0_50, end0_50]
    simp only [Int.neg_mul, Int.neg_neg, Int.zero_mul, Int.neg_zero, Int.sub_zero, Int.zero_sub, Int.add_zero, Int.zero_add] <;> omega
  · rw [gone_50, e, end0_05, end1_05, end0_50, end1_50]
    simp only [Int.neg_mul, Int.neg_neg, Int.zero_mul, Int.neg_zero, Int.sub_zero, Int.zero_sub, Int.add_zero, Int.zero_add] <;> omega
theorem bk_51 : Bk [A, B, C] 5 1 [x, y, 0] := by
  have e : ∀ u v w : Int, negL [u, v, w] = [-u, -v, -w] := fun _ _ _ => rfl
  refine ⟨?_, ?_, ?_, ?_, ?_⟩
  · rw [gone_51, e, outw_5, outw_1]
    omega
  · rw [gone_51, e, gone_15, e]
    simp only [Int.neg_mul, Int.neg_neg, Int.zero_mul, Int.neg_zero, Int.sub_zero, Int.zero_sub, Int.add_zero, Int.zero_add]
  · rw [gone_51, e, end0_15, end0_15]
    simp only [Int.neg_mul, Int.neg_neg, Int.zero_mul, Int.neg_zero, Int.sub_zero, Int.zero_sub, Int.add_zero, Int.zero_add] <;> omega
  · rw [e, end0_51, end0_51]
    simp only [Int.neg_mul, Int.neg_neg, Int.zero_mul, Int.neg_zero, Int.sub_zero, Int.zero_sub, Int.add_zero, Int.zero_add] <;> omega
  · rw [gone_51, e, end0_15, end1_15, end0_51, end1_51]
    simp only [Int.neg_mul, Int.neg_neg, Int.zero_mul, Int.neg_zero, Int.sub_zero, Int.zero_sub, Int.add_zero, Int.zero_add] <;> omega
theorem bk_52 : Bk [A, B, C] 5 2 [x, y, 0] := by
  have e : ∀ u v w : Int, negL [u, v, w] = [-u, -v, -w] := fun _ _ _ => rfl
  refine ⟨?_, ?_, ?_, ?_, ?_⟩
  · rw [gone_52, e, outw_5, outw_2]
    omega
  · rw [gone_52, e, gone_25, e]
    simp only [Int.neg_mul, Int.neg_neg, Int.zero_mul, Int.neg_zero, Int.sub_zero, Int.zero_sub, Int.add_zero, Int.zero_add]
  · rw [gone_52, e, end0_25, end0_25]
    simp only [Int.neg_mul, Int.neg_neg, Int.zero_mul, Int.neg_zero, Int.sub_zero, Int.zero_sub, Int.add_zero, Int.zero_add] <;> omega
  · rw [e, end0_52, end0_52]
    simp only [Int.neg_mul, Int.neg_neg, Int.zero_mul, Int.neg_zero, Int.sub_zero, Int.zero_sub, Int.add_zero, Int.zero_add] <;> omega
  · rw [gone_52, e, end0_25, end1_25, end0_52, end1_52]
    simp only [Int.neg_mul, Int.neg_neg, Int.zero_mul, Int.neg_zero, Int.sub_zero, Int.zero_sub, Int.add_zero, Int.zero_add] <;> omega
theorem bk_53 : Bk [A, B, C] 5 3 [x, y, 0] := by
  have e : ∀ u v w : Int, negL [u, v, w] = [-u, -v, -w] := fun _ _ _ => rfl
  refine ⟨?_, ?_, ?_, ?_, ?_⟩
  · rw [gone_53, e, outw_5, outw_3]
    omega
  · rw [gone_53, e, gone_35, e]
    simp only [Int.neg_mul, Int.neg_neg, Int.zero_mul, Int.neg_zero, Int.sub_zero, Int.zero_sub, Int.add_zero, Int.zero_add]
  · rw [gone_53, e, end0_35, end0_35]
    simp only [Int.neg_mul, Int.neg_neg, Int.zero_mul, Int.neg_zero, Int.sub_zero, Int.zero_sub, Int.add_zero, Int.zero_add] <;> omega
  · rw [e, end0_53, end0_53]
    simp only [Int.neg_mul, Int.neg_neg, Int.zero_mul, Int.neg_zero, Int.sub_zero, Int.zero_sub, Int.add_zero, Int.zero_add] <;> omega
  · rw [gone_53, e, end0_35, end1_35, end0_53, end1_53]
    simp only [Int.neg_mul, Int.neg_neg, Int.zero_mul, Int.neg_zero, Int.sub_zero, Int.zero_sub, Int.add_zero, Int.zero_add] <;> omega
end
theorem bk_all {s d : List Int} {f b : Int} (hs : s.length = 3) (f0 : 0 ≤ f) (f6 : f < 6) (b0 : 0 ≤ b) (b6 : b < 6) (hb : b / 2 ≠ f / 2) (hd : d.length = 3) (hz : gi d (f / 2) = 0) : Bk s f b d := by
  obtain ⟨A, B, C, rfl⟩ := len3 hs
  obtain ⟨x, y, z, rfl⟩ := len3 hd
  rcases six f0 f6 with rfl | rfl | rfl | rfl | rfl | rfl
  · have hz : x = 0 := hz
    subst hz
    have hb : b = 2 ∨ b = 3 ∨ b = 4 ∨ b = 5 := by omega
    rcases hb with rfl | rfl | rfl | rfl
    · exact bk_02
    · exact bk_03
    · exact bk_04
    · exact bk_05
  · have hz : x = 0 := hz
    subst hz
    have hb : b = 2 ∨ b = 3 ∨ b = 4 ∨ b = 5 := by omega
    rcases hb with rfl | rfl | rfl | rfl
    · exact bk_12
    · exact bk_13
    · exact bk_14
    · exact bk_15
  · have hz : y = 0 := hz
    subst hz
    have hb : b = 0 ∨ b = 1 ∨ b = 4 ∨ b = 5 := by omega
    rcases hb with rfl | rfl | rfl | rfl
    · exact bk_20
    · exact bk_21
    · exact bk_24
    · exact bk_25
  · have hz : y = 0 := hz
    subst hz
    have hb : b = 0 ∨ b = 1 ∨ b = 4 ∨ b = 5 := by omega
    rcases hb with rfl | rfl | rfl | rfl
    · exact bk_30
    · exact bk_31
    · exact bk_34
    · exact bk_35
  · have hz : z = 0 := hz
    subst hz
    have hb : b = 0 ∨ b = 1 ∨ b = 2 ∨ b = 3 := by omega
    rcases hb with rfl | rfl | rfl | rfl
    · exact bk_40
    · exact bk_41
    · exact bk_42
    · exact bk_43
  · have hz : z = 0 := hz
    subst hz
    have hb : b = 0 ∨ b = 1 ∨ b = 2 ∨ b = 3 := by omega
    rcases hb with rfl | rfl | rfl | rfl
    · exact bk_50
    · exact bk_51
    · exact bk_52
    · exact bk_53
end K27
set_option maxHeartbeats 4000000
/-! The way over a face, in the plane. -/
namespace K27
def rm (x T P : Int) : Int := if 0 < x then T - P else P
def ab (x : Int) : Int := if x < 0 then -x else x
/-- the nearer of two sides -/
def B2 (x y Ti Tj Pi Pj : Int) : Option (Int × Int) :=
  if y = 0 then (if x = 0 then none else some (rm x Ti Pi, ab x))
  else if x = 0 then some (rm y Tj Pj, ab y)
  else if rm y Tj Pj * ab x < rm x Ti Pi * ab y then some (rm y Tj Pj, ab y) else some (rm x Ti Pi, ab x)
def dirsN : List (Int × Int × Int) := [(1, 1), (1, 2), (2, 1), (2, 3), (3, 2), (1, 3), (3, 1), (1, 4), (4, 1), (3, 4), (4, 3), (1, 0)].flatMap fun c : Int × Int => [(c.1, c.2, manyM c.1 c.2), (-c.2, c.1, manyM c.1 c.2), (-c.1, -c.2, manyM c.1 c.2), (c.2, -c.1, manyM c.1 c.2)]
def Exits (x e T : Int) : Prop := (0 < x ∧ e = T) ∨ (x < 0 ∧ e = 0)
structure Two (x y N Ti Tj Pi Pj k g z : Int) : Prop where
  ms : x * (Pj + y * g / z) - y * (Pi + x * g / z) = N * (2 * k + 1)
  i0 : 0 ≤ Pi + x * g / z
  i1 : Pi + x * g / z ≤ Ti
  j0 : 0 ≤ Pj + y * g / z
  j1 : Pj + y * g / z ≤ Tj
  ex : (Exits x (Pi + x * g / z) Ti ∧ ¬ Exits y (Pj + y * g / z) Tj) ∨ (Exits y (Pj + y * g / z) Tj ∧ ¬ Exits x (Pi + x * g / z) Ti)
theorem two {x y N Si Sj Pi Pj k : Int} (h : (x, y, N) ∈ dirsN) (i0 : 0 ≤ Pi) (i1 : Pi ≤ Si * (2 * N)) (j0 : 0 ≤ Pj) (j1 : Pj ≤ Sj * (2 * N)) (hm : x * Pj - y * Pi = N * (2 * k + 1)) (d1 : x = 0 ∨ x ∣ y * Pi) (d2 : y = 0 ∨ y ∣ x * Pj) : ∃ g z, B2 x y (Si * (2 * N)) (Sj * (2 * N)) Pi Pj = some (g, z) ∧ Two x y N (Si * (2 * N)) (Sj * (2 * N)) Pi Pj k g z := by
  have e : dirsN = [(1, 1, 1), (-1, 1, 1), (-1, -1, 1), (1, -1, 1), (1, 2, 2), (-2, 1, 2), (-1, -2, 2), (2, -1, 2), (2, 1, 2), (-1, 2, 2), (-2, -1, 2), (1, -2, 2), (2, 3, 6), (-3, 2, 6), (-2, -3, 6), (3, -2, 6), (3, 2, 6), (-2, 3, 6), (-3, -2, 6), (2, -3, 6), (1, 3, 3), (-3, 1, 3), (-1, -3, 3), (3, -1, 3), (3, 1, 3), (-1, 3, 3), (-3, -1, 3), (1, -3, 3), (1, 4, 4), (-4, 1, 4), (-1, -4, 4), (4, -1, 4), (4, 1, 4), (-1, 4, 4), (-4, -1, 4), (1, -4, 4), (3, 4, 12), (-4, 3, 12), (-3, -4, 12), (4, -3, 12), (4, 3, 12), (-3, 4, 12), (-4, -3, 12), (3, -4, 12), (1, 0, 1), (0, 1, 1), (-1, 0, 1), (0, -1, 1)] := by decide +kernel
  rw [e] at h
  simp only [List.mem_cons, Prod.mk.injEq, List.not_mem_nil, or_false] at h
  rcases h with ⟨rfl, rfl, rfl⟩ | ⟨rfl, rfl, rfl⟩ | ⟨rfl, rfl, rfl⟩ | ⟨rfl, rfl, rfl⟩ | ⟨rfl, rfl, rfl⟩ | ⟨rfl, rfl, rfl⟩ | ⟨rfl, rfl, rfl⟩ | ⟨rfl, rfl, rfl⟩ | ⟨rfl, rfl, rfl⟩ | ⟨rfl, rfl, rfl⟩ | ⟨rfl, rfl, rfl⟩ | ⟨rfl, rfl, rfl⟩ | ⟨rfl, rfl, rfl⟩ | ⟨rfl, rfl, rfl⟩ | ⟨rfl, rfl, rfl⟩ | ⟨rfl, rfl, rfl⟩ | ⟨rfl, rfl, rfl⟩ | ⟨rfl, rfl, rfl⟩ | ⟨rfl, rfl, rfl⟩ | ⟨rfl, rfl, rfl⟩ | ⟨rfl, rfl, rfl⟩ | ⟨rfl, rfl, rfl⟩ | ⟨rfl, rfl, rfl⟩ | ⟨rfl, rfl, rfl⟩ | ⟨rfl, rfl, rfl⟩ | ⟨rfl, rfl, rfl⟩ | ⟨rfl, rfl, rfl⟩ | ⟨rfl, rfl, rfl⟩ | ⟨rfl, rfl, rfl⟩ | ⟨rfl, rfl, rfl⟩ | ⟨rfl, rfl, rfl⟩ | ⟨rfl, rfl, rfl⟩ | ⟨rfl, rfl, rfl⟩ | ⟨rfl, rfl, rfl⟩ | ⟨rfl, rfl, rfl⟩ | ⟨rfl, rfl, rfl⟩ | ⟨rfl, rfl, rfl⟩ | ⟨rfl, rfl, rfl⟩ | ⟨rfl, rfl, rfl⟩ | ⟨rfl, rfl, rfl⟩ | ⟨rfl, rfl, rfl⟩ | ⟨rfl, rfl, rfl⟩ | ⟨rfl, rfl, rfl⟩ | ⟨rfl, rfl, rfl⟩ | ⟨rfl, rfl, rfl⟩ | ⟨rfl, rfl, rfl⟩ | ⟨rfl, rfl, rfl⟩ | ⟨rfl, rfl, rfl⟩ <;> simp only [B2, rm, ab, Int.reduceLT, Int.reduceNeg, Int.reduceEq, ↓reduceIte, Int.neg_neg] <;> (try split) <;> refine ⟨_, _, rfl, ⟨?_, ?_, ?_, ?_, ?_, ?_⟩⟩ <;> (try unfold Exits) <;> omega
end K27
set_option maxHeartbeats 4000000
/-! A measure on an edge. -/
namespace K27
def al3 (f b : Int) : Int := 3 - f / 2 - b / 2
def sgE (f b : Int) : Int := (if b / 2 = a1 f then 1 else -1) * (if b - b / 2 * 2 = 1 then 1 else -1)
section
variable {A B C x y z u v w M : Int}
theorem me_02 (h : v = 0) : meas 0 [x, y, z] [u, v, w] = M * end0 [A, B, C] 0 2 [x, y, z] + sgE 0 2 * outw 2 [x, y, z] * gi [u, v, w] (al3 0 2) := by
  rw [meas_0, end0_02, outw_2, show sgE 0 2 = 1 by decide +kernel, show gi [u, v, w] (al3 0 2) = w from rfl, h]
  grind
theorem ee_02 : end1 [A, B, C] 0 2 [x, y, z] = end0 [A, B, C] 0 2 [x, y, z] + sgE 0 2 * outw 2 [x, y, z] * gi [A, B, C] (al3 0 2) := by
  rw [end1_02, end0_02, outw_2, show sgE 0 2 = 1 by decide +kernel, show gi [A, B, C] (al3 0 2) = C from rfl]
  grind
theorem me_03 (h : v = B * M) : meas 0 [x, y, z] [u, v, w] = M * end0 [A, B, C] 0 3 [x, y, z] + sgE 0 3 * outw 3 [x, y, z] * gi [u, v, w] (al3 0 3) := by
  rw [meas_0, end0_03, outw_3, show sgE 0 3 = -1 by decide +kernel, show gi [u, v, w] (al3 0 3) = w from rfl, h]
  grind
theorem ee_03 : end1 [A, B, C] 0 3 [x, y, z] = end0 [A, B, C] 0 3 [x, y, z] + sgE 0 3 * outw 3 [x, y, z] * gi [A, B, C] (al3 0 3) := by
  rw [end1_03, end0_03, outw_3, show sgE 0 3 = -1 by decide +kernel, show gi [A, B, C] (al3 0 3) = C from rfl]
  grind
theorem me_04 (h : w = 0) : meas 0 [x, y, z] [u, v, w] = M * end0 [A, B, C] 0 4 [x, y, z] + sgE 0 4 * outw 4 [x, y, z] * gi [u, v, w] (al3 0 4) := by
  rw [meas_0, end0_04, outw_4, show sgE 0 4 = -1 by decide +kernel, show gi [u, v, w] (al3 0 4) = v from rfl, h]
  grind
theorem ee_04 : end1 [A, B, C] 0 4 [x, y, z] = end0 [A, B, C] 0 4 [x, y, z] + sgE 0 4 * outw 4 [x, y, z] * gi [A, B, C] (al3 0 4) := by
  rw [end1_04, end0_04, outw_4, show sgE 0 4 = -1 by decide +kernel, show gi [A, B, C] (al3 0 4) = B from rfl]
  grind
theorem me_05 (h : w = C * M) : meas 0 [x, y, z] [u, v, w] = M * end0 [A, B, C] 0 5 [x, y, z] + sgE 0 5 * outw 5 [x, y, z] * gi [u, v, w] (al3 0 5) := by
  rw [meas_0, end0_05, outw_5, show sgE 0 5 = 1 by decide +kernel, show gi [u, v, w] (al3 0 5) = v from rfl, h]
  grind
theorem ee_05 : end1 [A, B, C] 0 5 [x, y, z] = end0 [A, B, C] 0 5 [x, y, z] + sgE 0 5 * outw 5 [x, y, z] * gi [A, B, C] (al3 0 5) := by
  rw [end1_05, end0_05, outw_5, show sgE 0 5 = 1 by decide +kernel, show gi [A, B, C] (al3 0 5) = B from rfl]
  grind
theorem me_12 (h : v = 0) : meas 1 [x, y, z] [u, v, w] = M * end0 [A, B, C] 1 2 [x, y, z] + sgE 1 2 * outw 2 [x, y, z] * gi [u, v, w] (al3 1 2) := by
  rw [meas_1, end0_12, outw_2, show sgE 1 2 = -1 by decide +kernel, show gi [u, v, w] (al3 1 2) = w from rfl, h]
  grind
theorem ee_12 : end1 [A, B, C] 1 2 [x, y, z] = end0 [A, B, C] 1 2 [x, y, z] + sgE 1 2 * outw 2 [x, y, z] * gi [A, B, C] (al3 1 2) := by
  rw [end1_12, end0_12, outw_2, show sgE 1 2 = -1 by decide +kernel, show gi [A, B, C] (al3 1 2) = C from rfl]
  grind
theorem me_13 (h : v = B * M) : meas 1 [x, y, z] [u, v, w] = M * end0 [A, B, C] 1 3 [x, y, z] + sgE 1 3 * outw 3 [x, y, z] * gi [u, v, w] (al3 1 3) := by
  rw [meas_1, end0_13, outw_3, show sgE 1 3 = 1 by decide +kernel, show gi [u, v, w] (al3 1 3) = w from rfl, h]
  grind
theorem ee_13 : end1 [A, B, C] 1 3 [x, y, z] = end0 [A, B, C] 1 3 [x, y, z] + sgE 1 3 * outw 3 [x, y, z] * gi [A, B, C] (al3 1 3) := by
  rw [end1_13, end0_13, outw_3, show sgE 1 3 = 1 by decide +kernel, show gi [A, B, C] (al3 1 3) = C from rfl]
  grind
theorem me_14 (h : w = 0) : meas 1 [x, y, z] [u, v, w] = M * end0 [A, B, C] 1 4 [x, y, z] + sgE 1 4 * outw 4 [x, y, z] * gi [u, v, w] (al3 1 4) := by
  rw [meas_1, end0_14, outw_4, show sgE 1 4 = 1 by decide +kernel, show gi [u, v, w] (al3 1 4) = v from rfl, h]
  grind
theorem ee_14 : end1 [A, B, C] 1 4 [x, y, z] = end0 [A, B, C] 1 4 [x, y, z] + sgE 1 4 * outw 4 [x, y, z] * gi [A, B, C] (al3 1 4) := by
  rw [end1_14, end0_14, outw_4, show sgE 1 4 = 1 by decide +kernel, show gi [A, B, C] (al3 1 4) = B from rfl]
  grind
theorem me_15 (h : w = C * M) : meas 1 [x, y, z] [u, v, w] = M * end0 [A, B, C] 1 5 [x, y, z] + sgE 1 5 * outw 5 [x, y, z] * gi [u, v, w] (al3 1 5) := by
  rw [meas_1, end0_15, outw_5, show sgE 1 5 = -1 by decide +kernel, show gi [u, v, w] (al3 1 5) = v from rfl, h]
  grind
theorem ee_15 : end1 [A, B, C] 1 5 [x, y, z] = end0 [A, B, C] 1 5 [x, y, z] + sgE 1 5 * outw 5 [x, y, z] * gi [A, B, C] (al3 1 5) := by
  rw [end1_15, end0_15, outw_5, show sgE 1 5 = -1 by decide +kernel, show gi [A, B, C] (al3 1 5) = B from rfl]
  grind
theorem me_20 (h : u = 0) : meas 2 [x, y, z] [u, v, w] = M * end0 [A, B, C] 2 0 [x, y, z] + sgE 2 0 * outw 0 [x, y, z] * gi [u, v, w] (al3 2 0) := by
  rw [meas_2, end0_20, outw_0, show sgE 2 0 = -1 by decide +kernel, show gi [u, v, w] (al3 2 0) = w from rfl, h]
  grind
theorem ee_20 : end1 [A, B, C] 2 0 [x, y, z] = end0 [A, B, C] 2 0 [x, y, z] + sgE 2 0 * outw 0 [x, y, z] * gi [A, B, C] (al3 2 0) := by
  rw [end1_20, end0_20, outw_0, show sgE 2 0 = -1 by decide +kernel, show gi [A, B, C] (al3 2 0) = C from rfl]
  grind
theorem me_21 (h : u = A * M) : meas 2 [x, y, z] [u, v, w] = M * end0 [A, B, C] 2 1 [x, y, z] + sgE 2 1 * outw 1 [x, y, z] * gi [u, v, w] (al3 2 1) := by
  rw [meas_2, end0_21, outw_1, show sgE 2 1 = 1 by decide +kernel, show gi [u, v, w] (al3 2 1) = w from rfl, h]
  grind
theorem ee_21 : end1 [A, B, C] 2 1 [x, y, z] = end0 [A, B, C] 2 1 [x, y, z] + sgE 2 1 * outw 1 [x, y, z] * gi [A, B, C] (al3 2 1) := by
  rw [end1_21, end0_21, outw_1, show sgE 2 1 = 1 by decide +kernel, show gi [A, B, C] (al3 2 1) = C from rfl]
  grind
theorem me_24 (h : w = 0) : meas 2 [x, y, z] [u, v, w] = M * end0 [A, B, C] 2 4 [x, y, z] + sgE 2 4 * outw 4 [x, y, z] * gi [u, v, w] (al3 2 4) := by
  rw [meas_2, end0_24, outw_4, show sgE 2 4 = 1 by decide +kernel, show gi [u, v, w] (al3 2 4) = u from rfl, h]
  grind
theorem ee_24 : end1 [A, B, C] 2 4 [x, y, z] = end0 [A, B, C] 2 4 [x, y, z] + sgE 2 4 * outw 4 [x, y, z] * gi [A, B, C] (al3 2 4) := by
  rw [end1_24, end0_24, outw_4, show sgE 2 4 = 1 by decide +kernel, show gi [A, B, C] (al3 2 4) = A from rfl]
  grind
theorem me_25 (h : w = C * M) : meas 2 [x, y, z] [u, v, w] = M * end0 [A, B, C] 2 5 [x, y, z] + sgE 2 5 * outw 5 [x, y, z] * gi [u, v, w] (al3 2 5) := by
  rw [meas_2, end0_25, outw_5, show sgE 2 5 = -1 by decide +kernel, show gi [u, v, w] (al3 2 5) = u from rfl, h]
  grind
theorem ee_25 : end1 [A, B, C] 2 5 [x, y, z] = end0 [A, B, C] 2 5 [x, y, z] + sgE 2 5 * outw 5 [x, y, z] * gi [A, B, C] (al3 2 5) := by
  rw [end1_25, end0_25, outw_5, show sgE 2 5 = -1 by decide +kernel, show gi [A, B, C] (al3 2 5) = A from rfl]
  grind
theorem me_30 (h : u = 0) : meas 3 [x, y, z] [u, v, w] = M * end0 [A, B, C] 3 0 [x, y, z] + sgE 3 0 * outw 0 [x, y, z] * gi [u, v, w] (al3 3 0) := by
  rw [meas_3, end0_30, outw_0, show sgE 3 0 = 1 by decide +kernel, show gi [u, v, w] (al3 3 0) = w from rfl, h]
  grind
theorem ee_30 : end1 [A, B, C] 3 0 [x, y, z] = end0 [A, B, C] 3 0 [x, y, z] + sgE 3 0 * outw 0 [x, y, z] * gi [A, B, C] (al3 3 0) := by
  rw [end1_30, end0_30, outw_0, show sgE 3 0 = 1 by decide +kernel, show gi [A, B, C] (al3 3 0) = C from rfl]
  grind
theorem me_31 (h : u = A * M) : meas 3 [x, y, z] [u, v, w] = M * end0 [A, B, C] 3 1 [x, y, z] + sgE 3 1 * outw 1 [x, y, z] * gi [u, v, w] (al3 3 1) := by
  rw [meas_3, end0_31, outw_1, show sgE 3 1 = -1 by decide +kernel, show gi [u, v, w] (al3 3 1) = w from rfl, h]
  grind
theorem ee_31 : end1 [A, B, C] 3 1 [x, y, z] = end0 [A, B, C] 3 1 [x, y, z] + sgE 3 1 * outw 1 [x, y, z] * gi [A, B, C] (al3 3 1) := by
  rw [end1_31, end0_31, outw_1, show sgE 3 1 = -1 by decide +kernel, show gi [A, B, C] (al3 3 1) = C from rfl]
  grind
theorem me_34 (h : w = 0) : meas 3 [x, y, z] [u, v, w] = M * end0 [A, B, C] 3 4 [x, y, z] + sgE 3 4 * outw 4 [x, y, z] * gi [u, v, w] (al3 3 4) := by
  rw [meas_3, end0_34, outw_4, show sgE 3 4 = -1 by decide +kernel, show gi [u, v, w] (al3 3 4) = u from rfl, h]
  grind
theorem ee_34 : end1 [A, B, C] 3 4 [x, y, z] = end0 [A, B, C] 3 4 [x, y, z] + sgE 3 4 * outw 4 [x, y, z] * gi [A, B, C] (al3 3 4) := by
  rw [end1_34, end0_34, outw_4, show sgE 3 4 = -1 by decide +kernel, show gi [A, B, C] (al3 3 4) = A from rfl]
  grind
theorem me_35 (h : w = C * M) : meas 3 [x, y, z] [u, v, w] = M * end0 [A, B, C] 3 5 [x, y, z] + sgE 3 5 * outw 5 [x, y, z] * gi [u, v, w] (al3 3 5) := by
  rw [meas_3, end0_35, outw_5, show sgE 3 5 = 1 by decide +kernel, show gi [u, v, w] (al3 3 5) = u from rfl, h]
  grind
theorem ee_35 : end1 [A, B, C] 3 5 [x, y, z] = end0 [A, B, C] 3 5 [x, y, z] + sgE 3 5 * outw 5 [x, y, z] * gi [A, B, C] (al3 3 5) := by
  rw [end1_35, end0_35, outw_5, show sgE 3 5 = 1 by decide +kernel, show gi [A, B, C] (al3 3 5) = A from rfl]
  grind
theorem me_40 (h : u = 0) : meas 4 [x, y, z] [u, v, w] = M * end0 [A, B, C] 4 0 [x, y, z] + sgE 4 0 * outw 0 [x, y, z] * gi [u, v, w] (al3 4 0) := by
  rw [meas_4, end0_40, outw_0, show sgE 4 0 = 1 by decide +kernel, show gi [u, v, w] (al3 4 0) = v from rfl, h]
  grind
theorem ee_40 : end1 [A, B, C] 4 0 [x, y, z] = end0 [A, B, C] 4 0 [x, y, z] + sgE 4 0 * outw 0 [x, y, z] * gi [A, B, C] (al3 4 0) := by
  rw [end1_40, end0_40, outw_0, show sgE 4 0 = 1 by decide +kernel, show gi [A, B, C] (al3 4 0) = B from rfl]
  grind
theorem me_41 (h : u = A * M) : meas 4 [x, y, z] [u, v, w] = M * end0 [A, B, C] 4 1 [x, y, z] + sgE 4 1 * outw 1 [x, y, z] * gi [u, v, w] (al3 4 1) := by
  rw [meas_4, end0_41, outw_1, show sgE 4 1 = -1 by decide +kernel, show gi [u, v, w] (al3 4 1) = v from rfl, h]
  grind
theorem ee_41 : end1 [A, B, C] 4 1 [x, y, z] = end0 [A, B, C] 4 1 [x, y, z] + sgE 4 1 * outw 1 [x, y, z] * gi [A, B, C] (al3 4 1) := by
  rw [end1_41, end0_41, outw_1, show sgE 4 1 = -1 by decide +kernel, show gi [A, B, C] (al3 4 1) = B from rfl]
  grind
theorem me_42 (h : v = 0) : meas 4 [x, y, z] [u, v, w] = M * end0 [A, B, C] 4 2 [x, y, z] + sgE 4 2 * outw 2 [x, y, z] * gi [u, v, w] (al3 4 2) := by
  rw [meas_4, end0_42, outw_2, show sgE 4 2 = -1 by decide +kernel, show gi [u, v, w] (al3 4 2) = u from rfl, h]
  grind
theorem ee_42 : end1 [A, B, C] 4 2 [x, y, z] = end0 [A, B, C] 4 2 [x, y, z] + sgE 4 2 * outw 2 [x, y, z] * gi [A, B, C] (al3 4 2) := by
  rw [end1_42, end0_42, outw_2, show sgE 4 2 = -1 by decide +kernel, show gi [A, B, C] (al3 4 2) = A from rfl]
  grind
theorem me_43 (h : v = B * M) : meas 4 [x, y, z] [u, v, w] = M * end0 [A, B, C] 4 3 [x, y, z] + sgE 4 3 * outw 3 [x, y, z] * gi [u, v, w] (al3 4 3) := by
  rw [meas_4, end0_43, outw_3, show sgE 4 3 = 1 by decide +kernel, show gi [u, v, w] (al3 4 3) = u from rfl, h]
  grind
theorem ee_43 : end1 [A, B, C] 4 3 [x, y, z] = end0 [A, B, C] 4 3 [x, y, z] + sgE 4 3 * outw 3 [x, y, z] * gi [A, B, C] (al3 4 3) := by
  rw [end1_43, end0_43, outw_3, show sgE 4 3 = 1 by decide +kernel, show gi [A, B, C] (al3 4 3) = A from rfl]
  grind
theorem me_50 (h : u = 0) : meas 5 [x, y, z] [u, v, w] = M * end0 [A, B, C] 5 0 [x, y, z] + sgE 5 0 * outw 0 [x, y, z] * gi [u, v, w] (al3 5 0) := by
  rw [meas_5, end0_50, outw_0, show sgE 5 0 = -1 by decide +kernel, show gi [u, v, w] (al3 5 0) = v from rfl, h]
  grind
theorem ee_50 : end1 [A, B, C] 5 0 [x, y, z] = end0 [A, B, C] 5 0 [x, y, z] + sgE 5 0 * outw 0 [x, y, z] * gi [A, B, C] (al3 5 0) := by
  rw [end1_50, end0_50, outw_0, show sgE 5 0 = -1 by decide +kernel, show gi [A, B, C] (al3 5 0) = B from rfl]
  grind
theorem me_51 (h : u = A * M) : meas 5 [x, y, z] [u, v, w] = M * end0 [A, B, C] 5 1 [x, y, z] + sgE 5 1 * outw 1 [x, y, z] * gi [u, v, w] (al3 5 1) := by
  rw [meas_5, end0_51, outw_1, show sgE 5 1 = 1 by decide +kernel, show gi [u, v, w] (al3 5 1) = v from rfl, h]
  grind
theorem ee_51 : end1 [A, B, C] 5 1 [x, y, z] = end0 [A, B, C] 5 1 [x, y, z] + sgE 5 1 * outw 1 [x, y, z] * gi [A, B, C] (al3 5 1) := by
  rw [end1_51, end0_51, outw_1, show sgE 5 1 = 1 by decide +kernel, show gi [A, B, C] (al3 5 1) = B from rfl]
  grind
theorem me_52 (h : v = 0) : meas 5 [x, y, z] [u, v, w] = M * end0 [A, B, C] 5 2 [x, y, z] + sgE 5 2 * outw 2 [x, y, z] * gi [u, v, w] (al3 5 2) := by
  rw [meas_5, end0_52, outw_2, show sgE 5 2 = 1 by decide +kernel, show gi [u, v, w] (al3 5 2) = u from rfl, h]
  grind
theorem ee_52 : end1 [A, B, C] 5 2 [x, y, z] = end0 [A, B, C] 5 2 [x, y, z] + sgE 5 2 * outw 2 [x, y, z] * gi [A, B, C] (al3 5 2) := by
  rw [end1_52, end0_52, outw_2, show sgE 5 2 = 1 by decide +kernel, show gi [A, B, C] (al3 5 2) = A from rfl]
  grind
theorem me_53 (h : v = B * M) : meas 5 [x, y, z] [u, v, w] = M * end0 [A, B, C] 5 3 [x, y, z] + sgE 5 3 * outw 3 [x, y, z] * gi [u, v, w] (al3 5 3) := by
  rw [meas_5, end0_53, outw_3, show sgE 5 3 = -1 by decide +kernel, show gi [u, v, w] (al3 5 3) = u from rfl, h]
  grind
theorem ee_53 : end1 [A, B, C] 5 3 [x, y, z] = end0 [A, B, C] 5 3 [x, y, z] + sgE 5 3 * outw 3 [x, y, z] * gi [A, B, C] (al3 5 3) := by
  rw [end1_53, end0_53, outw_3, show sgE 5 3 = -1 by decide +kernel, show gi [A, B, C] (al3 5 3) = A from rfl]
  grind
end
theorem meas_edge {s d P : List Int} {f b M : Int} (hs : s.length = 3) (hd : d.length = 3) (hP : P.length = 3) (f0 : 0 ≤ f) (f6 : f < 6) (b0 : 0 ≤ b) (b6 : b < 6) (hb : b / 2 ≠ f / 2) (h : gi P (b / 2) = lvl s b * M) : meas f d P = M * end0 s f b d + sgE f b * outw b d * gi P (al3 f b) := by
  obtain ⟨A, B, C, rfl⟩ := len3 hs
  obtain ⟨x, y, z, rfl⟩ := len3 hd
  obtain ⟨u, v, w, rfl⟩ := len3 hP
  rcases six f0 f6 with rfl | rfl | rfl | rfl | rfl | rfl
  · have hb : b = 2 ∨ b = 3 ∨ b = 4 ∨ b = 5 := by omega
    rcases hb with rfl | rfl | rfl | rfl
    · exact me_02 (by have h : v = 0 * M := h; rw [h, Int.zero_mul])
    · exact me_03 h
    · exact me_04 (by have h : w = 0 * M := h; rw [h, Int.zero_mul])
    · exact me_05 h
  · have hb : b = 2 ∨ b = 3 ∨ b = 4 ∨ b = 5 := by omega
    rcases hb with rfl | rfl | rfl | rfl
    · exact me_12 (by have h : v = 0 * M := h; rw [h, Int.zero_mul])
    · exact me_13 h
    · exact me_14 (by have h : w = 0 * M := h; rw [h, Int.zero_mul])
    · exact me_15 h
  · have hb : b = 0 ∨ b = 1 ∨ b = 4 ∨ b = 5 := by omega
    rcases hb with rfl | rfl | rfl | rfl
    · exact me_20 (by have h : u = 0 * M := h; rw [h, Int.zero_mul])
    · exact me_21 h
    · exact me_24 (by have h : w = 0 * M := h; rw [h, Int.zero_mul])
    · exact me_25 h
  · have hb : b = 0 ∨ b = 1 ∨ b = 4 ∨ b = 5 := by omega
    rcases hb with rfl | rfl | rfl | rfl
    · exact me_30 (by have h : u = 0 * M := h; rw [h, Int.zero_mul])
    · exact me_31 h
    · exact me_34 (by have h : w = 0 * M := h; rw [h, Int.zero_mul])
    · exact me_35 h
  · have hb : b = 0 ∨ b = 1 ∨ b = 2 ∨ b = 3 := by omega
    rcases hb with rfl | rfl | rfl | rfl
    · exact me_40 (by have h : u = 0 * M := h; rw [h, Int.zero_mul])
    · exact me_41 h
    · exact me_42 (by have h : v = 0 * M := h; rw [h, Int.zero_mul])
    · exact me_43 h
  · have hb : b = 0 ∨ b = 1 ∨ b = 2 ∨ b = 3 := by omega
    rcases hb with rfl | rfl | rfl | rfl
    · exact me_50 (by have h : u = 0 * M := h; rw [h, Int.zero_mul])
    · exact me_51 h
    · exact me_52 (by have h : v = 0 * M := h; rw [h, Int.zero_mul])
    · exact me_53 h
theorem end1_edge {s d : List Int} {f b : Int} (hs : s.length = 3) (hd : d.length = 3) (f0 : 0 ≤ f) (f6 : f < 6) (b0 : 0 ≤ b) (b6 : b < 6) (hb : b / 2 ≠ f / 2) : end1 s f b d = end0 s f b d + sgE f b * outw b d * gi s (al3 f b) := by
  obtain ⟨A, B, C, rfl⟩ := len3 hs
  obtain ⟨x, y, z, rfl⟩ := len3 hd
  rcases six f0 f6 with rfl | rfl | rfl | rfl | rfl | rfl
  · have hb : b = 2 ∨ b = 3 ∨ b = 4 ∨ b = 5 := by omega
    rcases hb with rfl | rfl | rfl | rfl
    · exact ee_02
    · exact ee_03
    · exact ee_04
    · exact ee_05
  · have hb : b = 2 ∨ b = 3 ∨ b = 4 ∨ b = 5 := by omega
    rcases hb with rfl | rfl | rfl | rfl
    · exact ee_12
    · exact ee_13
    · exact ee_14
    · exact ee_15
  · have hb : b = 0 ∨ b = 1 ∨ b = 4 ∨ b = 5 := by omega
    rcases hb with rfl | rfl | rfl | rfl
    · exact ee_20
    · exact ee_21
    · exact ee_24
    · exact ee_25
  · have hb : b = 0 ∨ b = 1 ∨ b = 4 ∨ b = 5 := by omega
    rcases hb with rfl | rfl | rfl | rfl
    · exact ee_30
    · exact ee_31
    · exact ee_34
    · exact ee_35
  · have hb : b = 0 ∨ b = 1 ∨ b = 2 ∨ b = 3 := by omega
    rcases hb with rfl | rfl | rfl | rfl
    · exact ee_40
    · exact ee_41
    · exact ee_42
    · exact ee_43
  · have hb : b = 0 ∨ b = 1 ∨ b = 2 ∨ b = 3 := by omega
    rcases hb with rfl | rfl | rfl | rfl
    · exact ee_50
    · exact ee_51
    · exact ee_52
    · exact ee_53
theorem sgE_b {f b : Int} (f0 : 0 ≤ f) (f6 : f < 6) (b0 : 0 ≤ b) (b6 : b < 6) (hb : b / 2 ≠ f / 2) : (sgE f b = 1 ∧ sgE b f = -1) ∨ (sgE f b = -1 ∧ sgE b f = 1) := by
  rcases six f0 f6 with rfl | rfl | rfl | rfl | rfl | rfl
  · have hb : b = 2 ∨ b = 3 ∨ b = 4 ∨ b = 5 := by omega
    rcases hb with rfl | rfl | rfl | rfl
    · decide +kernel
    · decide +kernel
    · decide +kernel
    · decide +kernel
  · have hb : b = 2 ∨ b = 3 ∨ b = 4 ∨ b = 5 := by omega
    rcases hb with rfl | rfl | rfl | rfl
    · decide +kernel
    · decide +kernel
    · decide +kernel
    · decide +kernel
  · have hb : b = 0 ∨ b = 1 ∨ b = 4 ∨ b = 5 := by omega
    rcases hb with rfl | rfl | rfl | rfl
    · decide +kernel
    · decide +kernel
    · decide +kernel
    · decide +kernel
  · have hb : b = 0 ∨ b = 1 ∨ b = 4 ∨ b = 5 := by omega
    rcases hb with rfl | rfl | rfl | rfl
    · decide +kernel
    · decide +kernel
    · decide +kernel
    · decide +kernel
  · have hb : b = 0 ∨ b = 1 ∨ b = 2 ∨ b = 3 := by omega
    rcases hb with rfl | rfl | rfl | rfl
    · decide +kernel
    · decide +kernel
    · decide +kernel
    · decide +kernel
  · have hb : b = 0 ∨ b = 1 ∨ b = 2 ∨ b = 3 := by omega
    rcases hb with rfl | rfl | rfl | rfl
    · decide +kernel
    · decide +kernel
    · decide +kernel
    · decide +kernel
end K27
set_option maxHeartbeats 4000000
/-! Over a face, along its axes. -/
namespace K27
def crossM (n : Int) (d E : List Int) : Int := if n = 0 then gi d 1 * gi E 2 - gi d 2 * gi E 1 else if n = 1 then gi d 0 * gi E 2 - gi d 2 * gi E 0 else gi d 0 * gi E 1 - gi d 1 * gi E 0
structure Way (s d P : List Int) (N n b g z : Int) : Prop where
  b0 : 0 ≤ b
  b6 : b < 6
  bn : b / 2 ≠ n
  ow : 0 < outw b d
  be : bestN s (2 * N) P d 3 = some (g, z)
  ov : overN s (2 * N) (endM P d g z) d 3 = [b]
  lv : gi (endM P d g z) (b / 2) = lvl s b * (2 * N)
  kp : gi (endM P d g z) n = gi P n
  box : ∀ i, 0 ≤ i → i < 3 → i ≠ n → 0 ≤ gi (endM P d g z) i ∧ gi (endM P d g z) i ≤ gi s i * (2 * N)
section
variable {A B C N k sc P0 P1 P2 E0 E1 E2 x y z g w : Int}
theorem best_0 : bestN [A, B, C] sc [P0, P1, P2] [0, y, z] 3 = B2 y z (B * sc) (C * sc) P1 P2 := by
  have e0 : bestN [A, B, C] sc [P0, P1, P2] [0, y, z] 3 = bstep [A, B, C] sc [P0, P1, P2] [0, y, z] (bstep [A, B, C] sc [P0, P1, P2] [0, y, z] (bstep [A, B, C] sc [P0, P1, P2] [0, y, z] none 0) 1) 2 := rfl
  rw [e0]
  have ez : ∀ acc, bstep [A, B, C] sc [P0, P1, P2] [0, y, z] acc 0 = acc := fun acc => if_pos rfl
  rw [ez]
  unfold B2
  by_cases hi : y = 0
  · have e1 : ∀ acc, bstep [A, B, C] sc [P0, P1, P2] [0, y, z] acc 1 = acc := fun acc => if_pos hi
    rw [e1]
    by_cases hj : z = 0
    · rw [if_pos hj, if_pos hi]
      exact if_pos hj
    · rw [if_neg hj, if_pos hi]
      exact if_neg hj
  · have e1 : bstep [A, B, C] sc [P0, P1, P2] [0, y, z] none 1 = some (rm y (B * sc) P1, ab y) := if_neg hi
    rw [e1]
    by_cases hj : z = 0
    · rw [if_pos hj, if_neg hi]
      exact if_pos hj
    · rw [if_neg hj, if_neg hi]
      exact if_neg hj
theorem end_0 : endM [P0, P1, P2] [0, y, z] g w = [P0, P1 + y * g / w, P2 + z * g / w] := by
  have e : endM [P0, P1, P2] [0, y, z] g w = [P0 + 0 * g / w, P1 + y * g / w, P2 + z * g / w] := rfl
  rw [e, Int.zero_mul, Int.zero_ediv, Int.add_zero]
theorem over_0 : overN [A, B, C] sc [E0, E1, E2] [0, y, z] 3 = (((if 0 < y ∧ E1 = B * sc then [3] else []) ++ (if y < 0 ∧ E1 = 0 then [2] else [])) ++ (if 0 < z ∧ E2 = C * sc then [5] else [])) ++ (if z < 0 ∧ E2 = 0 then [4] else []) := by
  have a0 : overA [A, B, C] sc [E0, E1, E2] [0, y, z] 0 = [] := if_neg (fun h => absurd h.1 (Int.lt_irrefl 0))
  have b0 : overB [E0, E1, E2] [0, y, z] 0 = [] := if_neg (fun h => absurd h.1 (Int.lt_irrefl 0))
  have e : overN [A, B, C] sc [E0, E1, E2] [0, y, z] 3 = ((((((([] : List Int) ++ overA [A, B, C] sc [E0, E1, E2] [0, y, z] 0) ++ overB [E0, E1, E2] [0, y, z] 0) ++ overA [A, B, C] sc [E0, E1, E2] [0, y, z] 1) ++ overB [E0, E1, E2] [0, y, z] 1) ++ overA [A, B, C] sc [E0, E1, E2] [0, y, z] 2) ++ overB [E0, E1, E2] [0, y, z] 2) := rfl
  rw [e, a0, b0]
  simp only [List.append_nil, List.nil_append]
  rfl
theorem way_0 (h : (y, z, N) ∈ dirsN) (i0 : 0 ≤ P1) (i1 : P1 ≤ B * (2 * N)) (j0 : 0 ≤ P2) (j1 : P2 ≤ C * (2 * N)) (hm : y * P2 - z * P1 = N * (2 * k + 1)) (d1 : y = 0 ∨ y ∣ z * P1) (d2 : z = 0 ∨ z ∣ y * P2) : ∃ b g w, Way [A, B, C] [0, y, z] [P0, P1, P2] N 0 b g w ∧ crossM 0 [0, y, z] (endM [P0, P1, P2] [0, y, z] g w) = N * (2 * k + 1) := by
  obtain ⟨g, w, hB, ⟨ms, i0, i1, j0, j1, ex⟩⟩ := two h i0 i1 j0 j1 hm d1 d2
  rw [← best_0 (A := A) (B := B) (C := C) (P0 := P0) (P1 := P1) (P2 := P2)] at hB
  have box : ∀ a : Int, 0 ≤ a → a < 3 → a ≠ 0 → 0 ≤ gi [P0, P1 + y * g / w, P2 + z * g / w] a ∧ gi [P0, P1 + y * g / w, P2 + z * g / w] a ≤ gi [A, B, C] a * (2 * N) := fun a a0 a3 an => by
    have : a = 1 ∨ a = 2 := by omega
    rcases this with rfl | rfl
    · exact ⟨i0, i1⟩
    · exact ⟨j0, j1⟩
  have key : ∀ b, 0 ≤ b → b < 6 → b / 2 ≠ 0 → 0 < outw b [0, y, z] → overN [A, B, C] (2 * N) [P0, P1 + y * g / w, P2 + z * g / w] [0, y, z] 3 = [b] → gi [P0, P1 + y * g / w, P2 + z * g / w] (b / 2) = lvl [A, B, C] b * (2 * N) → ∃ b g w, Way [A, B, C] [0, y, z] [P0, P1, P2] N 0 b g w ∧ crossM 0 [0, y, z] (endM [P0, P1, P2] [0, y, z] g w) = N * (2 * k + 1) := fun b b0 b6 bn bo h1 h2 => ⟨b, g, w, ⟨b0, b6, bn, bo, hB, by rw [end_0]; exact h1, by rw [end_0]; exact h2, by rw [end_0]; rfl, by rw [end_0]; exact box⟩, by rw [end_0]; exact ms⟩
  rcases ex with ⟨⟨hx, he⟩ | ⟨hx, he⟩, hn⟩ | ⟨⟨hx, he⟩ | ⟨hx, he⟩, hn⟩
  · refine key 3 (by decide) (by decide) (by decide) (by show 0 < y; omega) ?_ he
    unfold Exits at hn
    rw [over_0]
    rw [if_pos (show 0 < y ∧ P1 + y * g / w = B * (2 * N) from ⟨hx, he⟩), if_neg (show ¬ (y < 0 ∧ P1 + y * g / w = 0) from fun q => by omega), if_neg (show ¬ (0 < z ∧ P2 + z * g / w = C * (2 * N)) from fun q => hn (.inl q)), if_neg (show ¬ (z < 0 ∧ P2 + z * g / w = 0) from fun q => hn (.inr q))]
    rfl
  · refine key 2 (by decide) (by decide) (by decide) (by show 0 < -y; omega) ?_ (by show _ = 0 * (2 * N); rw [Int.zero_mul]; exact he)
    unfold Exits at hn
    rw [over_0]
    rw [if_neg (show ¬ (0 < y ∧ P1 + y * g / w = B * (2 * N)) from fun q => by omega), if_pos (show y < 0 ∧ P1 + y * g / w = 0 from ⟨hx, he⟩), if_neg (show ¬ (0 < z ∧ P2 + z * g / w = C * (2 * N)) from fun q => hn (.inl q)), if_neg (show ¬ (z < 0 ∧ P2 + z * g / w = 0) from fun q => hn (.inr q))]
    rfl
  · refine key 5 (by decide) (by decide) (by decide) (by show 0 < z; omega) ?_ he
    unfold Exits at hn
    rw [over_0]
    rw [if_pos (show 0 < z ∧ P2 + z * g / w = C * (2 * N) from ⟨hx, he⟩), if_neg (show ¬ (z < 0 ∧ P2 + z * g / w = 0) from fun q => by omega), if_neg (show ¬ (0 < y ∧ P1 + y * g / w = B * (2 * N)) from fun q => hn (.inl q)), if_neg (show ¬ (y < 0 ∧ P1 + y * g / w = 0) from fun q => hn (.inr q))]
    rfl
  · refine key 4 (by decide) (by decide) (by decide) (by show 0 < -z; omega) ?_ (by show _ = 0 * (2 * N); rw [Int.zero_mul]; exact he)
    unfold Exits at hn
    rw [over_0]
    rw [if_neg (show ¬ (0 < z ∧ P2 + z * g / w = C * (2 * N)) from fun q => by omega), if_pos (show z < 0 ∧ P2 + z * g / w = 0 from ⟨hx, he⟩), if_neg (show ¬ (0 < y ∧ P1 + y * g / w = B * (2 * N)) from fun q => hn (.inl q)), if_neg (show ¬ (y < 0 ∧ P1 + y * g / w = 0) from fun q => hn (.inr q))]
    rfl
theorem best_1 : bestN [A, B, C] sc [P0, P1, P2] [x, 0, z] 3 = B2 x z (A * sc) (C * sc) P0 P2 := by
  have e0 : bestN [A, B, C] sc [P0, P1, P2] [x, 0, z] 3 = bstep [A, B, C] sc [P0, P1, P2] [x, 0, z] (bstep [A, B, C] sc [P0, P1, P2] [x, 0, z] (bstep [A, B, C] sc [P0, P1, P2] [x, 0, z] none 0) 1) 2 := rfl
  rw [e0]
  have ez : ∀ acc, bstep [A, B, C] sc [P0, P1, P2] [x, 0, z] acc 1 = acc := fun acc => if_pos rfl
  rw [ez]
  unfold B2
  by_cases hi : x = 0
  · have e1 : ∀ acc, bstep [A, B, C] sc [P0, P1, P2] [x, 0, z] acc 0 = acc := fun acc => if_pos hi
    rw [e1]
    by_cases hj : z = 0
    · rw [if_pos hj, if_pos hi]
      exact if_pos hj
    · rw [if_neg hj, if_pos hi]
      exact if_neg hj
  · have e1 : bstep [A, B, C] sc [P0, P1, P2] [x, 0, z] none 0 = some (rm x (A * sc) P0, ab x) := if_neg hi
    rw [e1]
    by_cases hj : z = 0
    · rw [if_pos hj, if_neg hi]
      exact if_pos hj
    · rw [if_neg hj, if_neg hi]
      exact if_neg hj
theorem end_1 : endM [P0, P1, P2] [x, 0, z] g w = [P0 + x * g / w, P1, P2 + z * g / w] := by
  have e : endM [P0, P1, P2] [x, 0, z] g w = [P0 + x * g / w, P1 + 0 * g / w, P2 + z * g / w] := rfl
  rw [e, Int.zero_mul, Int.zero_ediv, Int.add_zero]
theorem over_1 : overN [A, B, C] sc [E0, E1, E2] [x, 0, z] 3 = (((if 0 < x ∧ E0 = A * sc then [1] else []) ++ (if x < 0 ∧ E0 = 0 then [0] else [])) ++ (if 0 < z ∧ E2 = C * sc then [5] else [])) ++ (if z < 0 ∧ E2 = 0 then [4] else []) := by
  have a0 : overA [A, B, C] sc [E0, E1, E2] [x, 0, z] 1 = [] := if_neg (fun h => absurd h.1 (Int.lt_irrefl 0))
  have b0 : overB [E0, E1, E2] [x, 0, z] 1 = [] := if_neg (fun h => absurd h.1 (Int.lt_irrefl 0))
  have e : overN [A, B, C] sc [E0, E1, E2] [x, 0, z] 3 = ((((((([] : List Int) ++ overA [A, B, C] sc [E0, E1, E2] [x, 0, z] 0) ++ overB [E0, E1, E2] [x, 0, z] 0) ++ overA [A, B, C] sc [E0, E1, E2] [x, 0, z] 1) ++ overB [E0, E1, E2] [x, 0, z] 1) ++ overA [A, B, C] sc [E0, E1, E2] [x, 0, z] 2) ++ overB [E0, E1, E2] [x, 0, z] 2) := rfl
  rw [e, a0, b0]
  simp only [List.append_nil, List.nil_append]
  rfl
theorem way_1 (h : (x, z, N) ∈ dirsN) (i0 : 0 ≤ P0) (i1 : P0 ≤ A * (2 * N)) (j0 : 0 ≤ P2) (j1 : P2 ≤ C * (2 * N)) (hm : x * P2 - z * P0 = N * (2 * k + 1)) (d1 : x = 0 ∨ x ∣ z * P0) (d2 : z = 0 ∨ z ∣ x * P2) : ∃ b g w, Way [A, B, C] [x, 0, z] [P0, P1, P2] N 1 b g w ∧ crossM 1 [x, 0, z] (endM [P0, P1, P2] [x, 0, z] g w) = N * (2 * k + 1) := by
  obtain ⟨g, w, hB, ⟨ms, i0, i1, j0, j1, ex⟩⟩ := two h i0 i1 j0 j1 hm d1 d2
  rw [← best_1 (A := A) (B := B) (C := C) (P0 := P0) (P1 := P1) (P2 := P2)] at hB
  have box : ∀ a : Int, 0 ≤ a → a < 3 → a ≠ 1 → 0 ≤ gi [P0 + x * g / w, P1, P2 + z * g / w] a ∧ gi [P0 + x * g / w, P1, P2 + z * g / w] a ≤ gi [A, B, C] a * (2 * N) := fun a a0 a3 an => by
    have : a = 0 ∨ a = 2 := by omega
    rcases this with rfl | rfl
    · exact ⟨i0, i1⟩
    · exact ⟨j0, j1⟩
  have key : ∀ b, 0 ≤ b → b < 6 → b / 2 ≠ 1 → 0 < outw b [x, 0, z] → overN [A, B, C] (2 * N) [P0 + x * g / w, P1, P2 + z * g / w] [x, 0, z] 3 = [b] → gi [P0 + x * g / w, P1, P2 + z * g / w] (b / 2) = lvl [A, B, C] b * (2 * N) → ∃ b g w, Way [A, B, C] [x, 0, z] [P0, P1, P2] N 1 b g w ∧ crossM 1 [x, 0, z] (endM [P0, P1, P2] [x, 0, z] g w) = N * (2 * k + 1) := fun b b0 b6 bn bo h1 h2 => ⟨b, g, w, ⟨b0, b6, bn, bo, hB, by rw [end_1]; exact h1, by rw [end_1]; exact h2, by rw [end_1]; rfl, by rw [end_1]; exact box⟩, by rw [end_1]; exact ms⟩
  rcases ex with ⟨⟨hx, he⟩ | ⟨hx, he⟩, hn⟩ | ⟨⟨hx, he⟩ | ⟨hx, he⟩, hn⟩
  · refine key 1 (by decide) (by decide) (by decide) (by show 0 < x; omega) ?_ he
    unfold Exits at hn
    rw [over_1]
    rw [if_pos (show 0 < x ∧ P0 + x * g / w = A * (2 * N) from ⟨hx, he⟩), if_neg (show ¬ (x < 0 ∧ P0 + x * g / w = 0) from fun q => by omega), if_neg (show ¬ (0 < z ∧ P2 + z * g / w = C * (2 * N)) from fun q => hn (.inl q)), if_neg (show ¬ (z < 0 ∧ P2 + z * g / w = 0) from fun q => hn (.inr q))]
    rfl
  · refine key 0 (by decide) (by decide) (by decide) (by show 0 < -x; omega) ?_ (by show _ = 0 * (2 * N); rw [Int.zero_mul]; exact he)
    unfold Exits at hn
    rw [over_1]
    rw [if_neg (show ¬ (0 < x ∧ P0 + x * g / w = A * (2 * N)) from fun q => by omega), if_pos (show x < 0 ∧ P0 + x * g / w = 0 from ⟨hx, he⟩), if_neg (show ¬ (0 < z ∧ P2 + z * g / w = C * (2 * N)) from fun q => hn (.inl q)), if_neg (show ¬ (z < 0 ∧ P2 + z * g / w = 0) from fun q => hn (.inr q))]
    rfl
  · refine key 5 (by decide) (by decide) (by decide) (by show 0 < z; omega) ?_ he
    unfold Exits at hn
    rw [over_1]
    rw [if_pos (show 0 < z ∧ P2 + z * g / w = C * (2 * N) from ⟨hx, he⟩), if_neg (show ¬ (z < 0 ∧ P2 + z * g / w = 0) from fun q => by omega), if_neg (show ¬ (0 < x ∧ P0 + x * g / w = A * (2 * N)) from fun q => hn (.inl q)), if_neg (show ¬ (x < 0 ∧ P0 + x * g / w = 0) from fun q => hn (.inr q))]
    rfl
  · refine key 4 (by decide) (by decide) (by decide) (by show 0 < -z; omega) ?_ (by show _ = 0 * (2 * N); rw [Int.zero_mul]; exact he)
    unfold Exits at hn
    rw [over_1]
    rw [if_neg (show ¬ (0 < z ∧ P2 + z * g / w = C * (2 * N)) from fun q => by omega), if_pos (show z < 0 ∧ P2 + z * g / w = 0 from ⟨hx, he⟩), if_neg (show ¬ (0 < x ∧ P0 + x * g / w = A * (2 * N)) from fun q => hn (.inl q)), if_neg (show ¬ (x < 0 ∧ P0 + x * g / w = 0) from fun q => hn (.inr q))]
    rfl
theorem best_2 : bestN [A, B, C] sc [P0, P1, P2] [x, y, 0] 3 = B2 x y (A * sc) (B * sc) P0 P1 := by
  have e0 : bestN [A, B, C] sc [P0, P1, P2] [x, y, 0] 3 = bstep [A, B, C] sc [P0, P1, P2] [x, y, 0] (bstep [A, B, C] sc [P0, P1, P2] [x, y, 0] (bstep [A, B, C] sc [P0, P1, P2] [x, y, 0] none 0) 1) 2 := rfl
  rw [e0]
  have ez : ∀ acc, bstep [A, B, C] sc [P0, P1, P2] [x, y, 0] acc 2 = acc := fun acc => if_pos rfl
  rw [ez]
  unfold B2
  by_cases hi : x = 0
  · have e1 : ∀ acc, bstep [A, B, C] sc [P0, P1, P2] [x, y, 0] acc 0 = acc := fun acc => if_pos hi
    rw [e1]
    by_cases hj : y = 0
    · rw [if_pos hj, if_pos hi]
      exact if_pos hj
    · rw [if_neg hj, if_pos hi]
      exact if_neg hj
  · have e1 : bstep [A, B, C] sc [P0, P1, P2] [x, y, 0] none 0 = some (rm x (A * sc) P0, ab x) := if_neg hi
    rw [e1]
    by_cases hj : y = 0
    · rw [if_pos hj, if_neg hi]
      exact if_pos hj
    · rw [if_neg hj, if_neg hi]
      exact if_neg hj
theorem end_2 : endM [P0, P1, P2] [x, y, 0] g w = [P0 + x * g / w, P1 + y * g / w, P2] := by
  have e : endM [P0, P1, P2] [x, y, 0] g w = [P0 + x * g / w, P1 + y * g / w, P2 + 0 * g / w] := rfl
  rw [e, Int.zero_mul, Int.zero_ediv, Int.add_zero]
theorem over_2 : overN [A, B, C] sc [E0, E1, E2] [x, y, 0] 3 = (((if 0 < x ∧ E0 = A * sc then [1] else []) ++ (if x < 0 ∧ E0 = 0 then [0] else [])) ++ (if 0 < y ∧ E1 = B * sc then [3] else [])) ++ (if y < 0 ∧ E1 = 0 then [2] else []) := by
  have a0 : overA [A, B, C] sc [E0, E1, E2] [x, y, 0] 2 = [] := if_neg (fun h => absurd h.1 (Int.lt_irrefl 0))
  have b0 : overB [E0, E1, E2] [x, y, 0] 2 = [] := if_neg (fun h => absurd h.1 (Int.lt_irrefl 0))
  have e : overN [A, B, C] sc [E0, E1, E2] [x, y, 0] 3 = ((((((([] : List Int) ++ overA [A, B, C] sc [E0, E1, E2] [x, y, 0] 0) ++ overB [E0, E1, E2] [x, y, 0] 0) ++ overA [A, B, C] sc [E0, E1, E2] [x, y, 0] 1) ++ overB [E0, E1, E2] [x, y, 0] 1) ++ overA [A, B, C] sc [E0, E1, E2] [x, y, 0] 2) ++ overB [E0, E1, E2] [x, y, 0] 2) := rfl
  rw [e, a0, b0]
  simp only [List.append_nil, List.nil_append]
  rfl
theorem way_2 (h : (x, y, N) ∈ dirsN) (i0 : 0 ≤ P0) (i1 : P0 ≤ A * (2 * N)) (j0 : 0 ≤ P1) (j1 : P1 ≤ B * (2 * N)) (hm : x * P1 - y * P0 = N * (2 * k + 1)) (d1 : x = 0 ∨ x ∣ y * P0) (d2 : y = 0 ∨ y ∣ x * P1) : ∃ b g w, Way [A, B, C] [x, y, 0] [P0, P1, P2] N 2 b g w ∧ crossM 2 [x, y, 0] (endM [P0, P1, P2] [x, y, 0] g w) = N * (2 * k + 1) := by
  obtain ⟨g, w, hB, ⟨ms, i0, i1, j0, j1, ex⟩⟩ := two h i0 i1 j0 j1 hm d1 d2
  rw [← best_2 (A := A) (B := B) (C := C) (P0 := P0) (P1 := P1) (P2 := P2)] at hB
  have box : ∀ a : Int, 0 ≤ a → a < 3 → a ≠ 2 → 0 ≤ gi [P0 + x * g / w, P1 + y * g / w, P2] a ∧ gi [P0 + x * g / w, P1 + y * g / w, P2] a ≤ gi [A, B, C] a * (2 * N) := fun a a0 a3 an => by
    have : a = 0 ∨ a = 1 := by omega
    rcases this with rfl | rfl
    · exact ⟨i0, i1⟩
    · exact ⟨j0, j1⟩
  have key : ∀ b, 0 ≤ b → b < 6 → b / 2 ≠ 2 → 0 < outw b [x, y, 0] → overN [A, B, C] (2 * N) [P0 + x * g / w, P1 + y * g / w, P2] [x, y, 0] 3 = [b] → gi [P0 + x * g / w, P1 + y * g / w, P2] (b / 2) = lvl [A, B, C] b * (2 * N) → ∃ b g w, Way [A, B, C] [x, y, 0] [P0, P1, P2] N 2 b g w ∧ crossM 2 [x, y, 0] (endM [P0, P1, P2] [x, y, 0] g w) = N * (2 * k + 1) := fun b b0 b6 bn bo h1 h2 => ⟨b, g, w, ⟨b0, b6, bn, bo, hB, by rw [end_2]; exact h1, by rw [end_2]; exact h2, by rw [end_2]; rfl, by rw [end_2]; exact box⟩, by rw [end_2]; exact ms⟩
  rcases ex with ⟨⟨hx, he⟩ | ⟨hx, he⟩, hn⟩ | ⟨⟨hx, he⟩ | ⟨hx, he⟩, hn⟩
  · refine key 1 (by decide) (by decide) (by decide) (by show 0 < x; omega) ?_ he
    unfold Exits at hn
    rw [over_2]
    rw [if_pos (show 0 < x ∧ P0 + x * g / w = A * (2 * N) from ⟨hx, he⟩), if_neg (show ¬ (x < 0 ∧ P0 + x * g / w = 0) from fun q => by omega), if_neg (show ¬ (0 < y ∧ P1 + y * g / w = B * (2 * N)) from fun q => hn (.inl q)), if_neg (show ¬ (y < 0 ∧ P1 + y * g / w = 0) from fun q => hn (.inr q))]
    rfl
  · refine key 0 (by decide) (by decide) (by decide) (by show 0 < -x; omega) ?_ (by show _ = 0 * (2 * N); rw [Int.zero_mul]; exact he)
    unfold Exits at hn
    rw [over_2]
    rw [if_neg (show ¬ (0 < x ∧ P0 + x * g / w = A * (2 * N)) from fun q => by omega), if_pos (show x < 0 ∧ P0 + x * g / w = 0 from ⟨hx, he⟩), if_neg (show ¬ (0 < y ∧ P1 + y * g / w = B * (2 * N)) from fun q => hn (.inl q)), if_neg (show ¬ (y < 0 ∧ P1 + y * g / w = 0) from fun q => hn (.inr q))]
    rfl
  · refine key 3 (by decide) (by decide) (by decide) (by show 0 < y; omega) ?_ he
    unfold Exits at hn
    rw [over_2]
    rw [if_pos (show 0 < y ∧ P1 + y * g / w = B * (2 * N) from ⟨hx, he⟩), if_neg (show ¬ (y < 0 ∧ P1 + y * g / w = 0) from fun q => by omega), if_neg (show ¬ (0 < x ∧ P0 + x * g / w = A * (2 * N)) from fun q => hn (.inl q)), if_neg (show ¬ (x < 0 ∧ P0 + x * g / w = 0) from fun q => hn (.inr q))]
    rfl
  · refine key 2 (by decide) (by decide) (by decide) (by show 0 < -y; omega) ?_ (by show _ = 0 * (2 * N); rw [Int.zero_mul]; exact he)
    unfold Exits at hn
    rw [over_2]
    rw [if_neg (show ¬ (0 < y ∧ P1 + y * g / w = B * (2 * N)) from fun q => by omega), if_pos (show y < 0 ∧ P1 + y * g / w = 0 from ⟨hx, he⟩), if_neg (show ¬ (0 < x ∧ P0 + x * g / w = A * (2 * N)) from fun q => hn (.inl q)), if_neg (show ¬ (x < 0 ∧ P0 + x * g / w = 0) from fun q => hn (.inr q))]
    rfl
end
end K27
set_option maxHeartbeats 4000000
/-! Tables of the slopes; a measure turned round; ranges. -/
namespace K27
def slp : List (Int × Int) := [(1, 1), (1, 2), (2, 1), (2, 3), (3, 2), (1, 3), (3, 1), (1, 4), (4, 1), (3, 4), (4, 3), (1, 0)]
def sixL : List Int := [0, 1, 2, 3, 4, 5]
def loA (f : Int) : Int := if f / 2 = 0 then 1 else 0
def hiA (f : Int) : Int := if f / 2 = 2 then 1 else 2
def TabP (f : Int) (c : Int × Int) (d : List Int) : Prop := d.length = 3 ∧ gi d (f / 2) = 0 ∧ (gi d (loA f), gi d (hiA f), manyM c.1 c.2) ∈ dirsN ∧ (∀ x ∈ d, -4 ≤ x ∧ x ≤ 4) ∧ negL d ≠ d ∧ negL d ∈ fourM f c.1 c.2 ∧ (gi d (a1 f) ≠ 0 ∨ gi d (a2 f) ≠ 0) ∧ Nat.gcd (gi d (a1 f)).natAbs (gi d (a2 f)).natAbs = 1
def TabQ (f : Int) (c : Int × Int) (d : List Int) : Prop := (∀ i ∈ ([0, 1, 2] : List Int), gi d i = 0 ∨ gi d i ∣ manyM c.1 c.2) ∧ ∀ b ∈ sixL, b / 2 ≠ f / 2 → goneM f b d ∈ fourM b c.1 c.2
instance (f : Int) (c : Int × Int) (d : List Int) : Decidable (TabP f c d) := by unfold TabP; infer_instance
instance (f : Int) (c : Int × Int) (d : List Int) : Decidable (TabQ f c d) := by unfold TabQ; infer_instance
theorem tabP : ∀ f ∈ sixL, ∀ c ∈ slp, ∀ d ∈ fourM f c.1 c.2, TabP f c d := by decide +kernel
theorem tabQ : ∀ f ∈ sixL, ∀ c ∈ slp, ∀ d ∈ fourM f c.1 c.2, TabQ f c d := by decide +kernel
theorem many0 : ∀ c ∈ slp, 0 < manyM c.1 c.2 ∧ manyM c.1 c.2 ≤ 1000 ∧ -1000 ≤ c.1 ∧ c.1 ≤ 1000 := by decide +kernel
theorem sixL_of {f : Int} (f0 : 0 ≤ f) (f6 : f < 6) : f ∈ sixL := by
  rcases six f0 f6 with rfl | rfl | rfl | rfl | rfl | rfl <;> decide
theorem gi_neg {l : List Int} {i : Int} : gi (negL l) i = -gi l i := by
  unfold gi negL
  rw [List.getD_eq_getElem?_getD, List.getD_eq_getElem?_getD, List.getElem?_map]
  cases l[i.toNat]? with
  | none => rfl
  | some x => rfl
theorem outw_neg {b : Int} {d : List Int} : outw b (negL d) = -outw b d := by
  unfold outw
  rw [gi_neg]
  split <;> rfl
theorem neg2 {d : List Int} : negL (negL d) = d := by
  unfold negL
  rw [List.map_map]
  have : (fun x => -x) ∘ (fun x : Int => -x) = id := by
    funext x
    show - -x = x
    omega
  rw [this, List.map_id]
theorem al3_comm {f b : Int} : al3 f b = al3 b f := by unfold al3; omega
theorem lvl_b {s : List Int} {f : Int} : lvl s f = 0 ∨ lvl s f = gi s (f / 2) := by
  unfold lvl
  split
  · exact .inr rfl
  · exact .inl rfl
theorem Sd.at {s : List Int} (h : Sd s) {i : Int} (i0 : 0 ≤ i) (i3 : i < 3) : 1 ≤ gi s i := h.h1 _ (gi_mem i0 (by rw [h.h3]; exact i3))
/-- the range turned round -/
theorem rng_neg {s d : List Int} {f : Int} (hs : s.length = 3) (hd : d.length = 3) (f0 : 0 ≤ f) (f6 : f < 6) : lstMin (toldM s f (negL d)) = -lstMax (toldM s f d) ∧ lstMax (toldM s f (negL d)) = -lstMin (toldM s f d) := by
  obtain ⟨A, B, C, rfl⟩ := len3 hs
  obtain ⟨x, y, z, rfl⟩ := len3 hd
  have e : negL [x, y, z] = [-x, -y, -z] := rfl
  rw [e]
  rcases six f0 f6 with rfl | rfl | rfl | rfl | rfl | rfl
  · rw [lstMin_0, lstMax_0, lstMin_0, lstMax_0]
    simp only [Int.neg_mul]
    constructor <;> omega
  · rw [lstMin_1, lstMax_1, lstMin_1, lstMax_1]
    simp only [Int.neg_mul]
    constructor <;> omega
  · rw [lstMin_2, lstMax_2, lstMin_2, lstMax_2]
    simp only [Int.neg_mul]
    constructor <;> omega
  · rw [lstMin_3, lstMax_3, lstMin_3, lstMax_3]
    simp only [Int.neg_mul]
    constructor <;> omega
  · rw [lstMin_4, lstMax_4, lstMin_4, lstMax_4]
    simp only [Int.neg_mul]
    constructor <;> omega
  · rw [lstMin_5, lstMax_5, lstMin_5, lstMax_5]
    simp only [Int.neg_mul]
    constructor <;> omega
theorem rng_told {s d : List Int} {f : Int} (hs : Sd s) (hd : d.length = 3) (f0 : 0 ≤ f) (f6 : f < 6) : lstMin (rngL s f d) = lstMin (toldM s f d) ∧ lstMax (rngL s f d) = lstMax (toldM s f d) := by
  obtain ⟨A, B, C, rfl, hA, hB, hC⟩ := hs.abc
  obtain ⟨x, y, z, rfl⟩ := len3 hd
  rcases six f0 f6 with rfl | rfl | rfl | rfl | rfl | rfl
  · exact ⟨lstMinr_0, lstMaxr_0⟩
  · exact ⟨lstMinr_1, lstMaxr_1⟩
  · exact ⟨lstMinr_2, lstMaxr_2⟩
  · exact ⟨lstMinr_3, lstMaxr_3⟩
  · exact ⟨lstMinr_4, lstMaxr_4⟩
  · exact ⟨lstMinr_5, lstMaxr_5⟩
theorem endsL_mem {s d : List Int} {f b : Int} : ∀ {l : List Int}, b ∈ l → end0 s f b d ∈ endsL s f d l ∧ end1 s f b d ∈ endsL s f d l
  | [], h => nomatch h
  | c :: r, h => by
    unfold endsL
    rcases List.mem_cons.mp h with rfl | h
    · exact ⟨List.mem_cons_self, List.mem_cons_of_mem _ List.mem_cons_self⟩
    · have ih := endsL_mem (s := s) (d := d) (f := f) h
      exact ⟨List.mem_cons_of_mem _ (List.mem_cons_of_mem _ ih.1), List.mem_cons_of_mem _ (List.mem_cons_of_mem _ ih.2)⟩
/-- the ends of an edge stand in the range -/
theorem ends_in {s d : List Int} {f b : Int} (hs : Sd s) (hd : d.length = 3) (f0 : 0 ≤ f) (f6 : f < 6) (b0 : 0 ≤ b) (b6 : b < 6) (hb : b / 2 ≠ f / 2) : lstMin (toldM s f d) ≤ end0 s f b d ∧ end0 s f b d ≤ lstMax (toldM s f d) ∧ lstMin (toldM s f d) ≤ end1 s f b d ∧ end1 s f b d ≤ lstMax (toldM s f d) := by
  obtain ⟨e1, e2⟩ := rng_told hs hd f0 f6
  rw [← e1, ← e2]
  obtain ⟨m0, m1⟩ := endsL_mem (s := s) (d := d) (f := f) (besidesL_of f0 f6 b0 b6 hb)
  exact ⟨lstMin_le _ m0, lstMax_le _ m0, lstMin_le _ m1, lstMax_le _ m1⟩
theorem prod_b {x A : Int} (x0 : -4 ≤ x) (x4 : x ≤ 4) (A1 : 1 ≤ A) (A12 : A ≤ 12) : -48 ≤ x * A ∧ x * A ≤ 48 := by
  have : x = -4 ∨ x = -3 ∨ x = -2 ∨ x = -1 ∨ x = 0 ∨ x = 1 ∨ x = 2 ∨ x = 3 ∨ x = 4 := by omega
  rcases this with rfl | rfl | rfl | rfl | rfl | rfl | rfl | rfl | rfl <;> omega
theorem rng_b {s d : List Int} {f : Int} (h3 : s.length = 3) (hs : ∀ x ∈ s, 1 ≤ x ∧ x ≤ 12) (hd : d.length = 3) (h4 : ∀ x ∈ d, -4 ≤ x ∧ x ≤ 4) (f0 : 0 ≤ f) (f6 : f < 6) (hn : gi d (a1 f) ≠ 0 ∨ gi d (a2 f) ≠ 0) : lstMin (toldM s f d) < lstMax (toldM s f d) ∧ lstMax (toldM s f d) - lstMin (toldM s f d) < 1000000 ∧ -1000000 ≤ lstMin (toldM s f d) ∧ lstMin (toldM s f d) ≤ 1000000 := by
  obtain ⟨A, B, C, rfl⟩ := len3 h3
  obtain ⟨x, y, z, rfl⟩ := len3 hd
  have hA := hs A (by simp)
  have hB := hs B (by simp)
  have hC := hs C (by simp)
  have hx := h4 x (by simp)
  have hy := h4 y (by simp)
  have hz := h4 z (by simp)
  clear hs h4 h3 hd
  have q1 := prod_b hx.1 hx.2 hB.1 hB.2
  have q2 := prod_b hx.1 hx.2 hC.1 hC.2
  have q3 := prod_b hy.1 hy.2 hA.1 hA.2
  have q4 := prod_b hy.1 hy.2 hC.1 hC.2
  have q5 := prod_b hz.1 hz.2 hA.1 hA.2
  have q6 := prod_b hz.1 hz.2 hB.1 hB.2
  have sxB := sg (x := x) hB.1
  have sxC := sg (x := x) hC.1
  have syA := sg (x := y) hA.1
  have syC := sg (x := y) hC.1
  have szA := sg (x := z) hA.1
  have szB := sg (x := z) hB.1
  rcases six f0 f6 with rfl | rfl | rfl | rfl | rfl | rfl
  · have hn : z ≠ 0 ∨ y ≠ 0 := hn
    rw [lstMin_0, lstMax_0]
    omega
  · have hn : y ≠ 0 ∨ z ≠ 0 := hn
    rw [lstMin_1, lstMax_1]
    omega
  · have hn : x ≠ 0 ∨ z ≠ 0 := hn
    rw [lstMin_2, lstMax_2]
    omega
  · have hn : z ≠ 0 ∨ x ≠ 0 := hn
    rw [lstMin_3, lstMax_3]
    omega
  · have hn : y ≠ 0 ∨ x ≠ 0 := hn
    rw [lstMin_4, lstMax_4]
    omega
  · have hn : x ≠ 0 ∨ y ≠ 0 := hn
    rw [lstMin_5, lstMax_5]
    omega
end K27
set_option maxHeartbeats 4000000
/-! Good places and where they lead. -/
namespace K27
structure Good (s d P : List Int) (f N k : Int) : Prop where
  len : P.length = 3
  box : ∀ i, 0 ≤ i → i < 3 → i ≠ f / 2 → 0 ≤ gi P i ∧ gi P i ≤ gi s i * (2 * N)
  ms : meas f d P = N * (2 * k + 1)
  dv : ∀ i j, 0 ≤ i → i < 3 → 0 ≤ j → j < 3 → i ≠ j → i ≠ f / 2 → j ≠ f / 2 → gi d i = 0 ∨ gi d i ∣ gi d j * gi P i
  lv : gi P (f / 2) = lvl s f * (2 * N)
theorem flip1 {a b N k : Int} (h : a - b = N * (2 * k + 1)) : b - a = N * (2 * (-k - 1) + 1) := by grind
theorem flip2 {a b N k : Int} (h : b - a = N * (2 * (-k - 1) + 1)) : a - b = N * (2 * k + 1) := by grind
theorem good_way {s d P : List Int} {f N k : Int} (hs : s.length = 3) (hd : d.length = 3) (f0 : 0 ≤ f) (f6 : f < 6) (hz : gi d (f / 2) = 0) (hm : (gi d (loA f), gi d (hiA f), N) ∈ dirsN) (G : Good s d P f N k) : ∃ b g w, Way s d P N (f / 2) b g w ∧ meas f d (endM P d g w) = N * (2 * k + 1) := by
  obtain ⟨A, B, C, rfl⟩ := len3 hs
  obtain ⟨x, y, z, rfl⟩ := len3 hd
  obtain ⟨hP, box, ms, dv, lv⟩ := G
  obtain ⟨u, v, w, rfl⟩ := len3 hP
  rcases six f0 f6 with rfl | rfl | rfl | rfl | rfl | rfl
  · have hz : x = 0 := hz
    subst hz
    obtain ⟨i0, i1⟩ := box 1 (by decide) (by decide) (by decide)
    obtain ⟨j0, j1⟩ := box 2 (by decide) (by decide) (by decide)
    obtain ⟨b, g, r, W, e⟩ := way_0 (A := A) (P0 := u) hm i0 i1 j0 j1 (flip1 (show z * v - y * w = N * (2 * k + 1) from ms)) (dv 1 2 (by decide) (by decide) (by decide) (by decide) (by decide) (by decide) (by decide)) (dv 2 1 (by decide) (by decide) (by decide) (by decide) (by decide) (by decide) (by decide))
    exact ⟨b, g, r, W, flip2 e⟩
  · have hz : x = 0 := hz
    subst hz
    obtain ⟨i0, i1⟩ := box 1 (by decide) (by decide) (by decide)
    obtain ⟨j0, j1⟩ := box 2 (by decide) (by decide) (by decide)
    obtain ⟨b, g, r, W, e⟩ := way_0 (A := A) (P0 := u) hm i0 i1 j0 j1 (show y * w - z * v = N * (2 * k + 1) from ms) (dv 1 2 (by decide) (by decide) (by decide) (by decide) (by decide) (by decide) (by decide)) (dv 2 1 (by decide) (by decide) (by decide) (by decide) (by decide) (by decide) (by decide))
    exact ⟨b, g, r, W, e⟩
  · have hz : y = 0 := hz
    subst hz
    obtain ⟨i0, i1⟩ := box 0 (by decide) (by decide) (by decide)
    obtain ⟨j0, j1⟩ := box 2 (by decide) (by decide) (by decide)
    obtain ⟨b, g, r, W, e⟩ := way_1 (B := B) (P1 := v) hm i0 i1 j0 j1 (show x * w - z * u = N * (2 * k + 1) from ms) (dv 0 2 (by decide) (by decide) (by decide) (by decide) (by decide) (by decide) (by decide)) (dv 2 0 (by decide) (by decide) (by decide) (by decide) (by decide) (by decide) (by decide))
    exact ⟨b, g, r, W, e⟩
  · have hz : y = 0 := hz
    subst hz
    obtain ⟨i0, i1⟩ := box 0 (by decide) (by decide) (by decide)
    obtain ⟨j0, j1⟩ := box 2 (by decide) (by decide) (by decide)
    obtain ⟨b, g, r, W, e⟩ := way_1 (B := B) (P1 := v) hm i0 i1 j0 j1 (flip1 (show z * u - x * w = N * (2 * k + 1) from ms)) (dv 0 2 (by decide) (by decide) (by decide) (by decide) (by decide) (by decide) (by decide)) (dv 2 0 (by decide) (by decide) (by decide) (by decide) (by decide) (by decide) (by decide))
    exact ⟨b, g, r, W, flip2 e⟩
  · have hz : z = 0 := hz
    subst hz
    obtain ⟨i0, i1⟩ := box 0 (by decide) (by decide) (by decide)
    obtain ⟨j0, j1⟩ := box 1 (by decide) (by decide) (by decide)
    obtain ⟨b, g, r, W, e⟩ := way_2 (C := C) (P2 := w) hm i0 i1 j0 j1 (flip1 (show y * u - x * v = N * (2 * k + 1) from ms)) (dv 0 1 (by decide) (by decide) (by decide) (by decide) (by decide) (by decide) (by decide)) (dv 1 0 (by decide) (by decide) (by decide) (by decide) (by decide) (by decide) (by decide))
    exact ⟨b, g, r, W, flip2 e⟩
  · have hz : z = 0 := hz
    subst hz
    obtain ⟨i0, i1⟩ := box 0 (by decide) (by decide) (by decide)
    obtain ⟨j0, j1⟩ := box 1 (by decide) (by decide) (by decide)
    obtain ⟨b, g, r, W, e⟩ := way_2 (C := C) (P2 := w) hm i0 i1 j0 j1 (show x * v - y * u = N * (2 * k + 1) from ms) (dv 0 1 (by decide) (by decide) (by decide) (by decide) (by decide) (by decide) (by decide)) (dv 1 0 (by decide) (by decide) (by decide) (by decide) (by decide) (by decide) (by decide))
    exact ⟨b, g, r, W, e⟩
theorem strip_in {N m o w S : Int} (hN : 0 < N) (ho : 0 < o) (w0 : 0 ≤ w) (w1 : w ≤ S * (2 * N)) (h : N * (2 * m + 1) = o * w) : 0 ≤ m ∧ m + 1 ≤ o * S := by
  have h0 : 0 ≤ o * w := Int.mul_nonneg (by omega) w0
  have h1 : o * w ≤ o * (S * (2 * N)) := Int.mul_le_mul_of_nonneg_left w1 (by omega)
  have e : o * (S * (2 * N)) = N * (2 * (o * S)) := by grind
  rw [e, ← h] at h1
  rw [← h] at h0
  have q0 : N * 0 ≤ N * (2 * m + 1) := by rw [Int.mul_zero]; exact h0
  have r0 := Int.le_of_mul_le_mul_left q0 hN
  have r1 := Int.le_of_mul_le_mul_left h1 hN
  omega
/-- the step out turned round -/
theorem outw_gone {s d : List Int} {f b : Int} (hs : s.length = 3) (hd : d.length = 3) (f0 : 0 ≤ f) (f6 : f < 6) (b0 : 0 ≤ b) (b6 : b < 6) (hb : b / 2 ≠ f / 2) (hz : gi d (f / 2) = 0) : outw f (goneM f b d) = -outw b d := by
  have h := (bk_all hs f0 f6 b0 b6 hb hd hz).ow
  rw [outw_neg] at h
  omega
theorem good_step {s d P : List Int} {f N k : Int} (hs : Sd s) (hd : d.length = 3) (f0 : 0 ≤ f) (f6 : f < 6) (hN : 0 < N) (hz : gi d (f / 2) = 0) (hm : (gi d (loA f), gi d (hiA f), N) ∈ dirsN) (G : Good s d P f N k) : ∃ b g w, b ∈ leavL f d ∧ Hold s f d k (k + 1) b ∧ bestN s (2 * N) P d 3 = some (g, w) ∧ overN s (2 * N) (endM P d g w) d 3 = [b] ∧ idxM N b (goneM f b d) (endM P d g w) = k + gr s f b d := by
  obtain ⟨b, g, w, W, me⟩ := good_way hs.h3 hd f0 f6 hz hm G
  obtain ⟨b0, b6, bn, ow, be, ov, lv, kp, box⟩ := W
  refine ⟨b, g, w, leavL_of f0 f6 b0 b6 bn ow, ?_, be, ov, ?_⟩
  all_goals generalize hE : endM P d g w = E at *
  all_goals have El : E.length = 3 := by rw [← hE]; exact endM_len
  all_goals have h1 := meas_edge hs.h3 hd El f0 f6 b0 b6 bn lv
  all_goals have a0 : 0 ≤ al3 f b ∧ al3 f b < 3 ∧ al3 f b ≠ f / 2 := by unfold al3; omega
  all_goals obtain ⟨w0, w1⟩ := box _ a0.1 a0.2.1 a0.2.2
  all_goals rw [me] at h1
  · have h2 := end1_edge hs.h3 hd f0 f6 b0 b6 bn
    generalize outw b d = o at *
    generalize gi E (al3 f b) = u at *
    generalize gi s (al3 f b) = S at *
    unfold Hold
    rw [h2]
    generalize end0 s f b d = e0 at *
    rcases sgE_b f0 f6 b0 b6 bn with ⟨q, _⟩ | ⟨q, _⟩
    · rw [q] at h1 ⊢
      obtain ⟨r0, r1⟩ := strip_in (m := k - e0) hN ow w0 w1 (by grind)
      rw [Int.one_mul]
      omega
    · rw [q] at h1 ⊢
      obtain ⟨r0, r1⟩ := strip_in (m := e0 - k - 1) hN ow w0 w1 (by grind)
      rw [Int.neg_one_mul, Int.neg_mul]
      omega
  · have gl : (goneM f b d).length = 3 := by rw [goneM_len]; exact hd
    have h2 := meas_edge (M := 2 * N) hs.h3 gl El b0 b6 f0 f6 (fun z => bn z.symm) (by rw [kp]; exact G.lv)
    rw [outw_gone hs.h3 hd f0 f6 b0 b6 bn hz, al3_comm] at h2
    have h3 : meas b (goneM f b d) E = N * (2 * (k + gr s f b d) + 1) := by
      rw [h2]
      unfold gr
      generalize end0 s b f (goneM f b d) = e1 at *
      generalize end0 s f b d = e0 at *
      generalize outw b d = o at *
      generalize gi E (al3 f b) = u at *
      rcases sgE_b f0 f6 b0 b6 bn with ⟨q, r⟩ | ⟨q, r⟩
      · rw [q] at h1
        rw [r]
        grind
      · rw [q] at h1
        rw [r]
        grind
    unfold idxM
    rw [h3, Int.mul_ediv_cancel_left _ (by omega)]
    omega
/-- where an entry lies -/
structure Plc (s : List Int) (P : List Int) (c f N kk st : Int) : Prop where
  len : P.length = 3
  pc : gi P (c / 2) = lvl s c * (2 * N)
  pf : gi P (f / 2) = lvl s f * (2 * N)
  pa : gi P (al3 c f) = (2 * kk + 1) * (N / st)
def kOf (s d : List Int) (c f kk : Int) : Int := if sgE f c = 1 then end0 s f c d - kk - 1 else end0 s f c d + kk
theorem ent_good {s dd P : List Int} {c f N kk : Int} (hs : Sd s) (hd : dd.length = 3) (c0 : 0 ≤ c) (c6 : c < 6) (f0 : 0 ≤ f) (f6 : f < 6) (hcf : f / 2 ≠ c / 2) (hN : 0 < N) (hz : gi dd (c / 2) = 0) (st : 0 < outw f dd) (dn : ∀ i, 0 ≤ i → i < 3 → gi dd i = 0 ∨ gi dd i ∣ N) (dg : ∀ i, 0 ≤ i → i < 3 → gi (goneM c f dd) i = 0 ∨ gi (goneM c f dd) i ∣ N) (k0 : 0 ≤ kk) (k1 : kk < outw f dd * gi s (al3 c f)) (L : Plc s P c f N kk (outw f dd)) : Good s (goneM c f dd) P f N (kOf s (goneM c f dd) c f kk) ∧ idxM N f (goneM c f dd) P = kOf s (goneM c f dd) c f kk := by
  obtain ⟨hP, pc, pf, pa⟩ := L
  have sN : outw f dd ∣ N := by
    have := dn (f / 2) (by omega) (by omega)
    unfold outw at st ⊢
    split
    · rename_i q
      rw [if_pos q] at st
      rcases this with h | h
      · omega
      · exact h
    · rename_i q
      rw [if_neg q] at st
      rcases this with h | h
      · omega
      · exact Int.neg_dvd.mpr h
  obtain ⟨t, ht⟩ := sN
  have og := outw_gone hs.h3 hd c0 c6 f0 f6 hcf hz
  have gl : (goneM c f dd).length = 3 := by rw [goneM_len]; exact hd
  have et : N / outw f dd = t := by rw [ht, Int.mul_ediv_cancel_left _ (by omega)]
  rw [et] at pa
  have t0 : 0 < t := by
    rw [ht] at hN
    refine Decidable.byContradiction fun h => ?_
    have q := Int.mul_le_mul_of_nonneg_left (show t ≤ 0 by omega) (show 0 ≤ outw f dd by omega)
    rw [Int.mul_zero] at q
    omega
  have h1 := meas_edge (M := 2 * N) hs.h3 gl hP f0 f6 c0 c6 (fun z => hcf z.symm) pc
  rw [og, al3_comm, pa] at h1
  have ms : meas f (goneM c f dd) P = N * (2 * kOf s (goneM c f dd) c f kk + 1) := by
    rw [h1]
    unfold kOf
    generalize end0 s f c (goneM c f dd) = e0 at *
    generalize outw f dd = o at *
    rcases sgE_b f0 f6 c0 c6 (fun z => hcf z.symm) with ⟨q, r⟩ | ⟨q, r⟩
    · rw [q, if_pos rfl]
      grind
    · rw [q, if_neg (by decide)]
      grind
  refine ⟨⟨hP, ?_, ms, ?_, pf⟩, ?_⟩
  · intro i i0 i3 hi
    by_cases ic : i = c / 2
    · subst ic
      rw [pc]
      have := hs.at i0 i3
      have q : 0 ≤ gi s (c / 2) * (2 * N) := Int.mul_nonneg (by omega) (by omega)
      rcases lvl_b (s := s) (f := c) with e | e
      · rw [e, Int.zero_mul]
        exact ⟨Int.le_refl 0, q⟩
      · rw [e]
        exact ⟨q, Int.le_refl _⟩
    · have ia : i = al3 c f := by unfold al3; omega
      subst ia
      rw [pa, ht]
      have q : (2 * kk + 1) * t ≤ (2 * (outw f dd * gi s (al3 c f))) * t := Int.mul_le_mul_of_nonneg_right (by omega) (by omega)
      refine ⟨Int.mul_nonneg (by omega) (by omega), ?_⟩
      have e : gi s (al3 c f) * (2 * (outw f dd * t)) = (2 * (outw f dd * gi s (al3 c f))) * t := by grind
      rw [e]
      exact q
  · intro i j i0 i3 j0 j3 hij hi hj
    by_cases ic : i = c / 2
    · subst ic
      rw [pc]
      rcases dg _ i0 i3 with h | h
      · exact .inl h
      · right
        exact Int.dvd_mul_of_dvd_right (Int.dvd_mul_of_dvd_right (Int.dvd_mul_of_dvd_right h))
    · have ia : i = al3 c f := by unfold al3; omega
      have jc : j = c / 2 := by unfold al3 at ia; omega
      subst ia
      subst jc
      rw [pa]
      rcases dg _ i0 i3 with h | h
      · exact .inl h
      · right
        have e : gi (goneM c f dd) (c / 2) * ((2 * kk + 1) * t) = N * (2 * kk + 1) ∨ gi (goneM c f dd) (c / 2) * ((2 * kk + 1) * t) = N * -(2 * kk + 1) := by
          unfold outw at og
          rw [ht]
          split at og
          · right
            rw [og]
            unfold outw
            grind
          · left
            have og : gi (goneM c f dd) (c / 2) = outw f dd := by
              unfold outw
              omega
            rw [og]
            grind
        rcases e with e | e
        · rw [e]
          exact Int.dvd_mul_of_dvd_left h
        · rw [e]
          exact Int.dvd_mul_of_dvd_left h
  · unfold idxM
    rw [ms, Int.mul_ediv_cancel_left _ (by omega)]
    omega
end K27
set_option maxHeartbeats 4000000
/-! Every unit has an entry. -/
namespace K27
theorem full_ent {s d : List Int} {p q f k : Int} (hs : Sd s) (cp : (p, q) ∈ slp) (f0 : 0 ≤ f) (f6 : f < 6) (hd : d ∈ fourM f p q) (h1 : lstMin (toldM s f d) ≤ k) (h2 : k + 1 ≤ lstMax (toldM s f d)) : ∃ c dd kk, 0 ≤ c ∧ c < 6 ∧ f / 2 ≠ c / 2 ∧ dd ∈ fourM c p q ∧ 0 < outw f dd ∧ 0 ≤ kk ∧ kk < outw f dd * gi s (al3 c f) ∧ goneM c f dd = d ∧ kOf s d c f kk = k := by
  obtain ⟨dl, dz, _, _, _, dneg, dnz, _⟩ := tabP f (sixL_of f0 f6) _ cp d hd
  obtain ⟨nl, nz, _, _, _, _, nnz, _⟩ := tabP f (sixL_of f0 f6) _ cp _ dneg
  obtain ⟨r1, r2⟩ := rng_neg hs.h3 dl f0 f6
  obtain ⟨c, hc, hH⟩ := cov (k := -k - 1) hs f0 f6 nl nnz (by omega) (by omega)
  obtain ⟨c0, c6, cf, oc⟩ := leavL_b hc
  have B := bk_all hs.h3 f0 f6 c0 c6 cf nl nz
  have B2 := bk_all hs.h3 f0 f6 c0 c6 cf dl dz
  have hg := (tabQ f (sixL_of f0 f6) _ cp _ dneg).2 c (sixL_of c0 c6) cf
  have hn := (tabP c (sixL_of c0 c6) _ cp _ hg).2.2.2.2.2.1
  have e1 := end1_edge hs.h3 nl f0 f6 c0 c6 cf
  have e2 := B2.e0'
  have ga : goneM c f (negL (goneM f c (negL d))) = d := by rw [B.gn, neg2]
  have go : outw f (negL (goneM f c (negL d))) = outw c (negL d) := B.ow
  unfold Hold at hH
  rw [e1, e2] at hH
  rw [al3_comm] at hH
  have fin : ∀ kk, 0 ≤ kk → kk < outw c (negL d) * gi s (al3 c f) → kOf s d c f kk = k → ∃ c dd kk, 0 ≤ c ∧ c < 6 ∧ f / 2 ≠ c / 2 ∧ dd ∈ fourM c p q ∧ 0 < outw f dd ∧ 0 ≤ kk ∧ kk < outw f dd * gi s (al3 c f) ∧ goneM c f dd = d ∧ kOf s d c f kk = k := fun kk k0 k1 k2 => ⟨c, _, kk, c0, c6, fun z => cf z.symm, hn, by rw [go]; exact oc, k0, by rw [go]; exact k1, ga, k2⟩
  have oS : 0 ≤ outw c (negL d) * gi s (al3 c f) := Int.mul_nonneg (by omega) (by have := hs.at (show 0 ≤ al3 c f by unfold al3; omega) (show al3 c f < 3 by unfold al3; omega); omega)
  unfold kOf at fin
  generalize end0 s f c d = e0 at *
  generalize outw c (negL d) = o at *
  generalize gi s (al3 c f) = S at *
  rcases sgE_b f0 f6 c0 c6 cf with ⟨q, r⟩ | ⟨q, r⟩
  · rw [q, Int.one_mul] at hH
    exact fin (e0 - k - 1) (by omega) (by omega) (by rw [q, if_pos rfl]; omega)
  · rw [q, Int.neg_one_mul, Int.neg_mul] at hH
    exact fin (k - e0) (by omega) (by omega) (by rw [q, if_neg (by decide)]; omega)
/-- the way back -/
theorem hold_back {s d : List Int} {f lo hi b : Int} (hs : Sd s) (hd : d.length = 3) (f0 : 0 ≤ f) (f6 : f < 6) (hz : gi d (f / 2) = 0) (hb : b ∈ leavL f d) (h : Hold s f d lo hi b) : f ∈ leavL b (negL (goneM f b d)) ∧ Hold s b (negL (goneM f b d)) (-(hi + gr s f b d)) (-(lo + gr s f b d)) f ∧ goneM b f (negL (goneM f b d)) = negL d ∧ gr s b f (negL (goneM f b d)) = gr s f b d ∧ lstMin (toldM s b (goneM f b d)) ≤ lo + gr s f b d ∧ hi + gr s f b d ≤ lstMax (toldM s b (goneM f b d)) := by
  obtain ⟨b0, b6, bf, ob⟩ := leavL_b hb
  have B := bk_all hs.h3 f0 f6 b0 b6 bf hd hz
  have gl : (goneM f b d).length = 3 := by rw [goneM_len]; exact hd
  have gn : (negL (goneM f b d)).length = 3 := by rw [negL_len]; exact gl
  have q1 := end1_edge hs.h3 hd f0 f6 b0 b6 bf
  have q2 := end1_edge hs.h3 gl b0 b6 f0 f6 (fun z => bf z.symm)
  have q3 := end1_edge hs.h3 gn b0 b6 f0 f6 (fun z => bf z.symm)
  have q4 := ends_in (b := f) hs gl b0 b6 f0 f6 (fun z => bf z.symm)
  have og := outw_gone hs.h3 hd f0 f6 b0 b6 bf hz
  have w0 := B.e0
  have w1 := B.e0'
  have w2 := B.gn
  have w3 := B.ow
  refine ⟨leavL_of b0 b6 f0 f6 (fun z => bf z.symm) (by rw [w3]; exact ob), ?_, w2, ?_, ?_, ?_⟩
  · unfold Hold at h ⊢
    rw [q3, w0, w3]
    rw [q1] at h
    unfold gr
    rw [al3_comm]
    generalize end0 s f b d = e0 at *
    generalize end0 s b f (goneM f b d) = e1 at *
    generalize outw b d = o at *
    generalize gi s (al3 f b) = S at *
    rcases sgE_b f0 f6 b0 b6 bf with ⟨q, r⟩ | ⟨q, r⟩
    · rw [q, Int.one_mul] at h
      rw [r, Int.neg_one_mul, Int.neg_mul]
      omega
    · rw [q, Int.neg_one_mul, Int.neg_mul] at h
      rw [r, Int.one_mul]
      omega
  · show end0 s f b (goneM b f (negL (goneM f b d))) - end0 s b f (negL (goneM f b d)) = end0 s b f (goneM f b d) - end0 s f b d
    rw [w2, w1, w0]
    omega
  all_goals unfold Hold at h
  all_goals rw [q1] at h
  all_goals rw [q2, og, al3_comm] at q4
  all_goals unfold gr
  all_goals generalize end0 s f b d = e0 at *
  all_goals generalize end0 s b f (goneM f b d) = e1 at *
  all_goals generalize outw b d = o at *
  all_goals generalize gi s (al3 f b) = S at *
  all_goals rcases sgE_b f0 f6 b0 b6 bf with ⟨q, r⟩ | ⟨q, r⟩
  all_goals rw [q] at h
  all_goals rw [r] at q4
  all_goals first | rw [Int.one_mul] at h | rw [Int.neg_one_mul, Int.neg_mul] at h
  all_goals first | rw [Int.one_mul] at q4 | rw [Int.neg_one_mul, Int.neg_neg] at q4
  all_goals (try rw [Int.neg_mul] at q4)
  all_goals omega
end K27
set_option maxHeartbeats 4000000
/-! The mathematics of the law: every box and slope that is drawn serves. -/
namespace K27
open PySem PySem.Spec PyProof.Rows L2
theorem slopes_slp : slopes = slp := rfl
theorem Dom.sd {s : List Int} {p q : Int} (h : Dom s p q) : Sd s := ⟨h.h3, fun x hx => (h.hs x hx).1⟩
theorem Dom.cp {s : List Int} {p q : Int} (h : Dom s p q) : (p, q) ∈ slp := h.pq
theorem Dom.tp {s : List Int} {p q f : Int} {d : List Int} (h : Dom s p q) (f0 : 0 ≤ f) (f6 : f < 6) (hd : d ∈ fourM f p q) : TabP f (p, q) d := tabP f (sixL_of f0 f6) _ h.cp d hd
theorem Dom.tq {s : List Int} {p q f : Int} {d : List Int} (h : Dom s p q) (f0 : 0 ≤ f) (f6 : f < 6) (hd : d ∈ fourM f p q) : TabQ f (p, q) d := tabQ f (sixL_of f0 f6) _ h.cp d hd
theorem corn_tab : ∀ f ∈ sixL, ∀ c ∈ slp, ∀ d ∈ fourM f c.1 c.2, ∀ b1 ∈ leavL f d, ∀ b2 ∈ leavL f d, b1 ≠ b2 → cornO [f, b1, b2] = some (splC f d) := by decide +kernel
theorem lvl_at {s : List Int} {N f : Int} : gi s (f / 2) * 2 * N * (f % 2) = lvl s f * (2 * N) := by
  unfold lvl
  by_cases h : f - f / 2 * 2 = 1
  · rw [if_pos h, show f % 2 = 1 by omega, Int.mul_one, Int.mul_assoc]
  · rw [if_neg h, show f % 2 = 0 by omega, Int.mul_zero, Int.zero_mul]
theorem plc_at {s : List Int} {N c f kk st : Int} (c0 : 0 ≤ c) (c6 : c < 6) (f0 : 0 ≤ f) (f6 : f < 6) (ne : c / 2 ≠ f / 2) : Plc s (placeM s N c f kk st) c f N kk st := by
  have l0 : ([0, 0, 0] : List Int).length = 3 := rfl
  have a0 : 0 ≤ alM c f ∧ alM c f < 3 ∧ alM c f ≠ c / 2 ∧ alM c f ≠ f / 2 := by unfold alM; omega
  refine ⟨?_, ?_, ?_, ?_⟩
  · unfold placeM
    rw [List.length_set, List.length_set, List.length_set]
    rfl
  · unfold placeM
    rw [gi_set (by omega) (by rw [List.length_set, List.length_set, l0]; omega) a0.1, if_neg (fun z => a0.2.2.1 z.symm), gi_set (by omega) (by rw [List.length_set, l0]; omega) (by omega), if_neg ne, gi_set (by omega) (by rw [l0]; omega) (by omega), if_pos rfl]
    exact lvl_at
  · unfold placeM
    rw [gi_set (by omega) (by rw [List.length_set, List.length_set, l0]; omega) a0.1, if_neg (fun z => a0.2.2.2 z.symm), gi_set (by omega) (by rw [List.length_set, l0]; omega) (by omega), if_pos rfl]
    exact lvl_at
  · show gi (placeM s N c f kk st) (alM c f) = _
    unfold placeM
    rw [gi_set (by omega) (by rw [List.length_set, List.length_set, l0]; omega) a0.1, if_pos rfl]
theorem three_of {i : Int} (h0 : 0 ≤ i) (h3 : i < 3) : i ∈ ([0, 1, 2] : List Int) := by
  have : i = 0 ∨ i = 1 ∨ i = 2 := by omega
  rcases this with rfl | rfl | rfl <;> decide
theorem good_of {s : List Int} {p q : Int} (h : Dom s p q) {e : Ue} (E : Ent s p q e) : Good s (goneM e.1 e.2.1 e.2.2.1) (plE s (manyM p q) e) e.2.1 (manyM p q) (kOf s (goneM e.1 e.2.1 e.2.2.1) e.1 e.2.1 e.2.2.2) ∧ idxM (manyM p q) e.2.1 (goneM e.1 e.2.1 e.2.2.1) (plE s (manyM p q) e) = kOf s (goneM e.1 e.2.1 e.2.2.1) e.1 e.2.1 e.2.2.2 := by
  obtain ⟨c0, c6, f0, f6, hd, ne, st, k0, k1⟩ := E
  have t := h.tp c0 c6 hd
  have tq := h.tq c0 c6 hd
  have tg := h.tq f0 f6 (tq.2 _ (sixL_of f0 f6) (fun z => ne z.symm))
  exact ent_good h.sd t.1 c0 c6 f0 f6 (fun z => ne z.symm) (many0 _ h.cp).1 t.2.1 st (fun i i0 i3 => tq.1 i (three_of i0 i3)) (fun i i0 i3 => tg.1 i (three_of i0 i3)) k0 k1 (plc_at c0 c6 f0 f6 ne)
theorem keyN_inj {f f' k k' : Int} {d d' : List Int} (h : NestedKey.tup (keyN f d k) = NestedKey.tup (keyN f' d' k')) : f = f' ∧ d = d' ∧ k = k' := by
  have h := NestedKey.tup.inj h
  unfold keyN at h
  obtain ⟨h1, h⟩ := List.cons.inj h
  obtain ⟨h2, h⟩ := List.cons.inj h
  obtain ⟨h3, _⟩ := List.cons.inj h
  exact ⟨NestedKey.num.inj h1, (List.map_inj_right fun x y => NestedKey.num.inj).mp (NestedKey.tup.inj h2), NestedKey.num.inj h3⟩
theorem unit_ok {s : List Int} {p q : Int} (h : Dom s p q) {kvs : List (NestedKey × PyData)} (u : UI s p q (fun _ => True) 7000 kvs) {f k : Int} {d : List Int} (f0 : 0 ≤ f) (f6 : f < 6) (hd : d ∈ fourM f p q) (h1 : lstMin (toldM s f d) ≤ k) (h2 : k + 1 ≤ lstMax (toldM s f d)) : ∃ b, b ∈ leavL f d ∧ Hold s f d k (k + 1) b ∧ UOk s p q kvs f d k b (k + gr s f b d) := by
  obtain ⟨c, dd, kk, c0, c6, fc, hdd, st, k0, k1, eg, ek⟩ := full_ent h.sd h.cp f0 f6 hd h1 h2
  have E : Ent s p q (c, f, dd, kk) := ⟨c0, c6, f0, f6, hdd, fun z => fc z.symm, st, k0, k1⟩
  obtain ⟨kv, hkv, e⟩ := u.full _ E trivial
  have g := (good_of h E).2
  have e : kv.1 = .tup (keyN f d k) := by
    rw [e]
    unfold keyE
    rw [g]
    show NestedKey.tup (keyN f (goneM c f dd) (kOf s (goneM c f dd) c f kk)) = _
    rw [eg, ek]
  have tp := h.tp f0 f6 hd
  cases hf : kvs.find? fun kv => decide (kv.1 = .tup (keyN f d k)) with
  | none =>
    have := List.find?_eq_none.mp hf kv hkv
    exact absurd (decide_eq_true e) this
  | some kv' =>
    have m := List.mem_of_find?_eq_some hf
    have e' : kv'.1 = .tup (keyN f d k) := of_decide_eq_true (List.find?_some (p := fun kv : NestedKey × PyData => decide (kv.1 = .tup (keyN f d k))) hf)
    obtain ⟨x, X, ex⟩ := u.sound kv' m
    obtain ⟨G, gi'⟩ := good_of h X
    have ey : kv'.1 = keyE s (manyM p q) x := by rw [ex]
    rw [e'] at ey
    unfold keyE at ey
    obtain ⟨q1, q2, q3⟩ := keyN_inj ey
    rw [← q2, ← q1] at G
    rw [gi', ← q2, ← q1] at q3
    rw [← q3] at G
    obtain ⟨b, gg, w, hb, hH, be, ov, ix⟩ := good_step h.sd tp.1 f0 f6 (many0 _ h.cp).1 tp.2.1 tp.2.2.1 G
    obtain ⟨b0, b6, _, _⟩ := leavL_b hb
    refine ⟨b, hb, hH, plE s (manyM p q) x, ?_, G.len, b0, b6, gg, w, be, ov, ix⟩
    unfold findK
    rw [hf, ex]
    rfl
theorem Dom.dx {s : List Int} {p q : Int} (h : Dom s p q) : DomX s p q := by
  have m := many0 _ h.cp
  refine ⟨⟨h.h3, fun x hx => by have := h.hs x hx; omega, m.2.2.1, m.2.2.2, m.1, m.2.1⟩, fun f d f0 f6 hd => ?_⟩
  obtain ⟨dl, dz, _, d4, _, _, dn, dg⟩ := h.tp f0 f6 hd
  obtain ⟨r1, r2⟩ := rng_told h.sd dl f0 f6
  refine ⟨⟨f0, f6, dl, fun x hx => by have := d4 x hx; omega⟩, ?_, r1, r2, rng_b h.h3 h.hs dl d4 f0 f6 dn⟩
  have hw : wholeD (.int f) 0 5 = true := by
    show (decide (0 ≤ f) && decide (f ≤ 5)) = true
    rw [decide_eq_true f0, decide_eq_true (show f ≤ 5 by omega)]
    rfl
  unfold dirR
  rw [if_pos hw, if_pos dl, if_pos (show gi d (intD (.int f) / 2) = 0 from dz), if_neg (show ¬ (gi d (a1 (intD (.int f))) = 0 ∧ gi d (a2 (intD (.int f))) = 0) from fun z => dn.elim (fun n => n z.1) (fun n => n z.2)), if_pos (show Nat.gcd (gi d (a1 (intD (.int f)))).natAbs (gi d (a2 (intD (.int f)))).natAbs = 1 from dg)]
theorem Dom.bk {s : List Int} {p q : Int} (h : Dom s p q) (r : Str4) (hr : RowD s p q r) : RowD s p q (backR r) := by
  obtain ⟨f, d, lo, hi⟩ := r
  obtain ⟨f0, f6, hd, h1, h2, h3⟩ := hr
  dsimp only at f0 f6 hd h1 h2 h3
  have t := h.tp f0 f6 hd
  obtain ⟨r1, r2⟩ := rng_neg h.h3 t.1 f0 f6
  refine ⟨f0, f6, t.2.2.2.2.2.1, ?_, ?_, ?_⟩
  · show lstMin (toldM s f (negL d)) ≤ -hi
    rw [r1]
    omega
  · show -hi < -lo
    omega
  · show -lo ≤ lstMax (toldM s f (negL d))
    rw [r2]
    omega
theorem Dom.af {s : List Int} {p q : Int} (h : Dom s p q) (kvs : List (NestedKey × PyData)) (u : UI s p q (fun _ => True) 7000 kvs) (r : Str4) (hr : RowD s p q r) : ∃ b1 k1 b2 k2, Aft s p q kvs r b1 k1 b2 k2 := by
  obtain ⟨f, d, lo, hi⟩ := r
  obtain ⟨f0, f6, hd, h1, h2, h3⟩ := hr
  dsimp only at f0 f6 hd h1 h2 h3
  have t := h.tp f0 f6 hd
  obtain ⟨b1, m1, H1, u1⟩ := unit_ok h u f0 f6 hd h1 (by omega)
  obtain ⟨b2, m2, H2, u2⟩ := unit_ok h u (k := hi - 1) f0 f6 hd (by omega) (by omega)
  refine ⟨b1, _, b2, _, u1, u2, ?_⟩
  show Aft1 s (f, d, lo, hi) b1 (lo + gr s f b1 d) b2 (hi - 1 + gr s f b2 d) (onwM s f d lo hi)
  cases ho : onwM s f d lo hi with
  | none =>
    have ne : b1 ≠ b2 := by
      intro z
      subst z
      refine onw_none ho h.sd f0 f6 t.1 h2 m1 (hold_join H1 (?_ : Hold s f d (hi - 1) hi b1))
      have e : hi - 1 + 1 = hi := by omega
      rw [e] at H2
      exact H2
    exact ⟨ne, corn_tab f (sixL_of f0 f6) _ h.cp d hd b1 m1 b2 m2 ne⟩
  | some z =>
    obtain ⟨b, hb, H, rfl⟩ := onw_some ho
    have e1 : b1 = b := hold_uni h.sd f0 f6 t.1 (by omega) m1 hb H1 (hold_sub H (by omega) (by omega))
    have e2 : b2 = b := hold_uni h.sd f0 f6 t.1 (by omega) m2 hb H2 (hold_sub H (by omega) (by omega))
    subst e1
    subst e2
    obtain ⟨b0, b6, bf, ob⟩ := leavL_b hb
    obtain ⟨q1, q2, q3, q4, q5, q6⟩ := hold_back h.sd t.1 f0 f6 t.2.1 hb H
    have hg : goneM f b2 d ∈ fourM b2 p q := (h.tq f0 f6 hd).2 _ (sixL_of b0 b6) bf
    have R : RowD s p q (b2, goneM f b2 d, lo + gr s f b2 d, hi + gr s f b2 d) := ⟨b0, b6, hg, q5, by show lo + _ < hi + _; omega, q6⟩
    refine ⟨rfl, ?_, okR_of h.dx R, okR_of h.dx (h.bk _ R), ?_⟩
    · have e : hi - 1 + gr s f b2 d + 1 = hi + gr s f b2 d := by omega
      rw [e]
    · show onwM s b2 (negL (goneM f b2 d)) (-(hi + gr s f b2 d)) (-(lo + gr s f b2 d)) = some (f, negL d, -hi, -lo)
      rw [onw_eq h.sd b0 b6 (by rw [negL_len, goneM_len]; exact t.1) (by omega) q1 q2, q3, q4]
      have e3 : -(hi + gr s f b2 d) + gr s f b2 d = -hi := by omega
      have e4 : -(lo + gr s f b2 d) + gr s f b2 d = -lo := by omega
      rw [e3, e4]
theorem law_math : ∀ s p q, Dom s p q → LawOk s p q := fun s p q h =>
  ⟨h.dx, ⟨h.h3, h.hs, (many0 _ h.cp).2.2.1, (many0 _ h.cp).2.2.2, (many0 _ h.cp).1, (many0 _ h.cp).2.1, fun f d f0 f6 hd => by
    have t := h.tp f0 f6 hd
    exact ⟨t.1, t.2.2.2.1⟩⟩, h.bk, h.af, fun f d f0 f6 hd => (h.tp f0 f6 hd).2.2.2.2.1⟩
end K27
set_option maxHeartbeats 0
namespace K27h
open PySem PySem.Spec PyProof.Rows L2 K27
theorem facts {P : Program} {w : World} {K : PySem.W.Frag} {h : Heap} {mg : PySem.Str → Option Value} {f : Addr} (X : K.In h) (G : h.Ns mainGlobals mg) (hfa : mg ("law" : PySem.Str) = some (.ref f)) (c : He.SaysD faL fnL K) (e : exB K = true) :
    ∃ fd : FuncData, (∀ (s : Shared) (v : Value), BindsTo s fd ⟨[v], []⟩ [("_law_script", v)]) ∧ ∀ base : Heap, K.In base → base.Ns mainGlobals mg → FnOk P w K mg base CX0 13 f fd ["_law_script"] (spLaw K) := by
  have T : Tx K mg := tx_of X G c e
  obtain ⟨fd, F⟩ := T.D_law
  have e1 := hfa.symm.trans T.g_law
  have e2 := Option.some.inj e1
  have e3 : f = He.fAd K d_law.at_ := Value.ref.inj e2
  subst e3
  have b := FunD.bindsA (ps := ["_law_script"]) F fun _ _ _ _ _ _ us hl => match us, hl with | [_], _ => rfl
  exact ⟨fd, fun s v => b s [v] rfl, fun base _ _ => fn_law T law_math F⟩
end K27h
open PySem PySem.W PySem.Calls PyProof.Rows
theorem PySem.Challenge.cw_tautparcel_k27_whole_strips_go_on_and_co_holds : PySem.Challenge.rw_tautparcel_k27_whole_strips_go_on_and_co.Holds := by
  refine K27h.fin ?_
  refine L2.walk_ofE (l := PySem.Challenge.rw_tautparcel_k27_whole_strips_go_on_and_co) (n := 63) (k := 13) (x := "_law_script") (CX := L2.CX0) rfl (by decide) (by kernel_rfl) ⟨rfl, by decide, by decide⟩ ?F (fun _ _ _ _ z => z)
  intro w mg fa h Y G hmg0
  obtain ⟨K, KX, c, e⟩ := Y
  have hmg : mg ("law" : PySem.Str) = some (.ref fa) := by
    have e : (HandSHeadRun.topDef (OpenLaw.row PySem.Challenge.rw_tautparcel_k27_whole_strips_go_on_and_co).prog 101).name = ("law" : PySem.Str) := by kernel_rfl
    rw [← e]
    exact hmg0
  obtain ⟨fd, hb, hF⟩ := K27h.facts (P := (PySem.Challenge.rw_tautparcel_k27_whole_strips_go_on_and_co).prog) (w := w) KX G hmg c e
  exact ⟨K, fd, K27.spLaw K, KX, hb, fun H a ns hl _ hS => ⟨a, ns, rfl, hS, hl, fun _ => rfl⟩, hF⟩
