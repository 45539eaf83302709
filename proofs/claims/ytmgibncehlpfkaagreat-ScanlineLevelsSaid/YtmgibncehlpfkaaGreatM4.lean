/- Contracts that the claim stands on: XSrtA to XLower. -/
import Derived.Deep.LoopGhost
import Derived.Deep.DeepCutAuto
import Derived.Test.YtmgibncehlpfkaaGreatM3
namespace Go.Proofs.YtmgibncehlpfkaaGreat
open Go.RowKit

/-! Plain laws: insertion, merging, the stable sort. -/
namespace Stb
variable {α : Type}
theorem rev_rec {motive : List α → Prop} (nil : motive []) (snoc : ∀ l y, motive l → motive (l ++ [y])) (l : List α) : motive l := by
  have h : ∀ m : List α, motive m.reverse := by
    intro m
    induction m with
    | nil => exact nil
    | cons x m ih => rw [List.reverse_cons]; exact snoc _ _ ih
  have := h l.reverse
  rwa [List.reverse_reverse] at this
def ins (lt : α → α → Bool) : List α → α → List α
  | [], y => [y]
  | x :: l, y => if lt y x then y :: x :: l else x :: ins lt l y
def mrg (lt : α → α → Bool) : List α → List α → List α
  | [], l => l
  | x :: a, [] => x :: a
  | x :: a, y :: b => if lt y x then y :: mrg lt (x :: a) b else x :: mrg lt a (y :: b)
termination_by a b => a.length + b.length
def stab (lt : α → α → Bool) (l : List α) : List α := l.foldl (ins lt) []
structure Wk (lt : α → α → Bool) : Prop where
  asym : ∀ x y, lt x y = true → lt y x = false
  trans : ∀ x y z, lt y x = false → lt z y = false → lt z x = false
variable {lt : α → α → Bool}
theorem Wk.irr (h : Wk lt) (x : α) : lt x x = false := by
  cases e : lt x x with
  | false => rfl
  | true => have := h.asym x x e; rw [e] at this; exact this
theorem Wk.tr (h : Wk lt) {x y z : α} (a : lt x y = true) (b : lt y z = true) : lt x z = true := by
  cases e : lt x z with
  | true => rfl
  | false =>
    have := h.trans y z x (h.asym y z b) e
    rw [a] at this
    cases this
theorem mrg_nil (a : List α) : mrg lt a [] = a := by cases a <;> simp [mrg]
theorem nil_mrg (a : List α) : mrg lt [] a = a := by simp [mrg]
theorem mrg_cons (x y : α) (a b : List α) : mrg lt (x :: a) (y :: b) = if lt y x then y :: mrg lt (x :: a) b else x :: mrg lt a (y :: b) := by rw [mrg]
theorem mrg_len (a b : List α) : (mrg lt a b).length = a.length + b.length := by
  induction a, b using mrg.induct (lt := lt) with
  | case1 l => simp [mrg]
  | case2 x a => simp [mrg]
  | case3 x a y b h ih => rw [mrg, if_pos h]; simp [ih]; omega
  | case4 x a y b h ih => rw [mrg, if_neg h]; simp [ih]; omega
theorem ins_len (l : List α) (y : α) : (ins lt l y).length = l.length + 1 := by
  induction l with
  | nil => rfl
  | cons x l ih => unfold ins; split <;> simp [ih]
theorem stab_snoc (l : List α) (y : α) : stab lt (l ++ [y]) = ins lt (stab lt l) y := by simp [stab]
theorem stab_nil : stab lt ([] : List α) = [] := rfl
theorem stab_len (l : List α) : (stab lt l).length = l.length := by
  induction l using rev_rec with
  | nil => rfl
  | snoc l y ih => rw [stab_snoc, ins_len, ih]; simp
theorem mem_ins {l : List α} {y z : α} : z ∈ ins lt l y ↔ z = y ∨ z ∈ l := by
  induction l with
  | nil => simp [ins]
  | cons x l ih =>
    unfold ins
    split
    · simp
    simp only [List.mem_cons, ih]
    constructor
    · rintro (h | h | h) <;> simp [h]
    rintro (h | h | h) <;> simp [h]
theorem mem_stab {l : List α} {z : α} : z ∈ stab lt l ↔ z ∈ l := by
  induction l using rev_rec with
  | nil => simp [stab]
  | snoc l y ih => rw [stab_snoc, mem_ins, ih]; simp; exact or_comm
def Srt (lt : α → α → Bool) (l : List α) : Prop := l.Pairwise fun x y => lt y x = false
theorem ins_srt (W : Wk lt) {l : List α} {y : α} (h : Srt lt l) : Srt lt (ins lt l y) := by
 induction l with
 | nil => exact List.pairwise_singleton _ _
 | cons x l ih =>
  have hx := List.pairwise_cons.1 h
  unfold ins
  split
  ·rename_i hl
   refine List.pairwise_cons.2 ⟨fun z hz => ?_, h⟩
   rcases List.mem_cons.1 hz with rfl | hz
   ·exact W.asym _ _ hl
   exact W.trans y x z (W.asym _ _ hl) (hx.1 z hz)
  rename_i hl
  refine List.pairwise_cons.2 ⟨fun z hz => ?_, ih hx.2⟩
  rcases mem_ins.1 hz with rfl | hz
  ·exact eq_false_of_ne_true hl
  exact hx.1 z hz
theorem stab_srt (W : Wk lt) (l : List α) : Srt lt (stab lt l) := by
  induction l using rev_rec with
  | nil => exact List.Pairwise.nil
  | snoc l y ih => rw [stab_snoc]; exact ins_srt W ih
theorem mrg_ins (W : Wk lt) (a b : List α) (y : α) : mrg lt a (ins lt b y) = ins lt (mrg lt a b) y := by
 induction a, b using mrg.induct (lt := lt) with
 | case1 l => simp [mrg]
 | case2 x a =>
  show mrg lt (x :: a) [y] = ins lt (mrg lt (x :: a) []) y
  rw [mrg_nil]
  induction a generalizing x with
  | nil => rw [mrg_cons, ins]; split <;> simp [mrg, ins]
  | cons z a ih =>
   rw [mrg_cons, ins]
   split
   ·rw [mrg_nil]
   rw [ih]
 | case3 x a z b h ih =>
  rw [mrg_cons, if_pos h]
  by_cases hz : lt y z = true
  ·have e : ins lt (z :: b) y = y :: z :: b := by rw [ins, if_pos hz]
   rw [e, mrg_cons, if_pos (W.tr hz h), mrg_cons, if_pos h, ins, if_pos hz]
  have e : ins lt (z :: b) y = z :: ins lt b y := by rw [ins, if_neg hz]
  rw [e, mrg_cons, if_pos h, ih, ins, if_neg hz]
 | case4 x a z b h ih =>
  rw [mrg_cons x z a b, if_neg h]
  by_cases hz : lt y z = true
  ·have e : ins lt (z :: b) y = y :: z :: b := by rw [ins, if_pos hz]
   rw [e] at ih ⊢
   rw [mrg_cons, ins]
   by_cases hx : lt y x = true
   ·rw [if_pos hx, if_pos hx, mrg_cons, if_neg h]
   rw [if_neg hx, if_neg hx, ih]
  have e : ins lt (z :: b) y = z :: ins lt b y := by rw [ins, if_neg hz]
  have hx : ¬ lt y x = true := by
   have := W.trans x z y (eq_false_of_ne_true h) (eq_false_of_ne_true hz)
   rw [this]; simp
  rw [e] at ih ⊢
  rw [mrg_cons, if_neg h, ih, ins, if_neg hx]
theorem mrg_stab (W : Wk lt) (l m : List α) : mrg lt (stab lt l) (stab lt m) = stab lt (l ++ m) := by
  induction m using rev_rec with
  | nil => rw [stab_nil, mrg_nil, List.append_nil]
  | snoc m y ih => rw [stab_snoc, mrg_ins W, ih, ← List.append_assoc, stab_snoc]
theorem mrg_app (a1 a2 b1 b2 : List α) (h1 : ∀ x, x ∈ a1 → ∀ y, y ∈ b2 → lt y x = false) (h2 : ∀ y, y ∈ b1 → ∀ x, x ∈ a2 → lt y x = true) :
  mrg lt (a1 ++ a2) (b1 ++ b2) = mrg lt a1 b1 ++ mrg lt a2 b2 := by
 induction a1, b1 using mrg.induct (lt := lt) with
 | case1 l =>
  rw [nil_mrg, List.nil_append]
  clear h1
  induction l with
  | nil => rfl
  | cons y l ih =>
   cases a2 with
   | nil => simp [nil_mrg]
   | cons x a2 =>
    rw [List.cons_append, mrg_cons, if_pos (h2 y (by simp) x (by simp)), ih (fun y hy => h2 y (by simp [hy]))]
    rfl
 | case2 x a =>
  rw [mrg_nil, List.nil_append]
  clear h2
  generalize hl : x :: a = l at h1 ⊢
  clear hl x a
  induction l with
  | nil => rfl
  | cons x l ih =>
   cases b2 with
   | nil => simp [mrg_nil]
   | cons y b2 =>
    have e : ¬ lt y x = true := by rw [h1 x (by simp) y (by simp)]; simp
    rw [List.cons_append, mrg_cons, if_neg e, ih (fun x hx => h1 x (by simp [hx]))]
    rfl
 | case3 x a y b h ih =>
  rw [mrg_cons, if_pos h, List.cons_append, List.cons_append, mrg_cons, if_pos h, List.cons_append]
  have := ih h1 (fun y hy => h2 y (by simp [hy]))
  rw [List.cons_append] at this
  rw [this]
 | case4 x a y b h ih =>
  rw [mrg_cons, if_neg h, List.cons_append, List.cons_append, mrg_cons, if_neg h, List.cons_append]
  have := ih (fun x hx => h1 x (by simp [hx])) h2
  rw [List.cons_append] at this
  rw [this]
theorem ins_split (l r : List α) (y : α) (h1 : ∀ z, z ∈ l → lt y z = false) (h2 : ∀ z, z ∈ r → lt y z = true) : ins lt (l ++ r) y = l ++ y :: r := by
  induction l with
  | nil =>
    cases r with
    | nil => rfl
    | cons z r => rw [List.nil_append, ins, if_pos (h2 z (by simp))]; rfl
  | cons z l ih =>
    have e : ¬ lt y z = true := by rw [h1 z (by simp)]; simp
    rw [List.cons_append, ins, if_neg e, ih (fun z hz => h1 z (by simp [hz]))]
    rfl
theorem stab_take1 (l : List α) : stab lt (l.take 1) = l.take 1 := by cases l <;> rfl
theorem ins_stop (W : Wk lt) {l : List α} {y : α} {u : Nat} (hs : Srt lt l) (ha : ∀ z, z ∈ l.drop u → lt y z = true) (hu : u ≤ l.length) (h : u = 0 ∨ ∃ q, q + 1 = u ∧ ∃ hq : q < l.length, lt y l[q] = false) :
  ins lt l y = l.take u ++ y :: l.drop u := by
 have h0 : ∀ z, z ∈ l.take u → lt y z = false := by
  intro z hz
  rcases h with rfl | ⟨q, rfl, hq, hy⟩
  ·simp at hz
  rw [List.take_succ_eq_append_getElem hq] at hz
  rcases List.mem_append.1 hz with hz | hz
  ·refine W.trans z l[q] y ?_ hy
   have e : l = l.take q ++ l[q] :: l.drop (q + 1) := by rw [← List.drop_eq_getElem_cons hq, List.take_append_drop]
   have hs2 := hs
   rw [e] at hs2
   exact (List.pairwise_append.1 hs2).2.2 z hz l[q] (List.mem_cons.2 (Or.inl rfl))
  simp at hz
  rw [hz]; exact hy
 have := ins_split (lt := lt) (l.take u) (l.drop u) y h0 ha
 rwa [List.take_append_drop] at this
end Stb
end Go.Proofs.YtmgibncehlpfkaaGreat

namespace Go.Proofs.YtmgibncehlpfkaaGreat
open Go.RowKit

section
variable {α : Type} {enc : α → List Value} {k : Nat}
theorem flat_len (hk : ∀ x, (enc x).length = k) (xs : List α) : (xs.flatMap enc).length = xs.length * k := by
  induction xs with
  | nil => simp
  | cons x xs ih => rw [List.flatMap_cons, List.length_append, ih, hk, List.length_cons, Nat.add_mul]; omega
theorem cut_at {xs : List α} {i : Nat} {x : α} (h : xs[i]? = some x) : xs = xs.take i ++ x :: xs.drop (i + 1) ∧ (xs.take i).length = i ∧ ∀ y, xs.set i y = xs.take i ++ y :: xs.drop (i + 1) := by
  obtain ⟨hi, rfl⟩ := List.getElem?_eq_some_iff.1 h
  refine ⟨by simp, by rw [List.length_take]; omega, fun y => ?_⟩
  rw [List.set_eq_take_append_cons_drop, if_pos hi]
theorem Blk.setMid {w : World} {g : Nat} {t : TypeId} {A B C : List Value} (h : Blk w g t (A ++ (B ++ C)).toArray) (B' : List Value) (hl : B'.length = B.length) : Blk (w.setCells g A.length B') g t (A ++ (B' ++ C)).toArray := by
  have h2 := Blk.setPart h A.length B' (by simp; omega)
  rw [hl] at h2
  have e : (A ++ (B ++ C)).take A.length ++ B' ++ (A ++ (B ++ C)).drop (A.length + B.length) = A ++ (B' ++ C) := by simp
  rwa [e] at h2
structure Sw (w wr : World) (g : Nat) (T : TypeId) (enc : α → List Value) (rest : List Value) (xs : List α) : Prop where
  blk : Blk wr g T (xs.flatMap enc ++ rest).toArray
  own : Own g w wr
variable {w wr : World} {g : Nat} {T : TypeId} {rest : List Value} {xs : List α}
theorem Sw.ext {w' : World} (h : Sw w wr g T enc rest xs) (e : Ext wr w') : Sw w w' g T enc rest xs := ⟨h.blk.ext e, h.own.then_ext e⟩
theorem Sw.split (h : Sw w wr g T enc rest xs) {i : Nat} {x : α} (hx : xs[i]? = some x) (hk : ∀ x, (enc x).length = k) :
  ∃ A C : List Value, A.length = i * k ∧ Blk wr g T (A ++ (enc x ++ C)).toArray ∧ ∀ y, (xs.set i y).flatMap enc ++ rest = A ++ (enc y ++ C) := by
 obtain ⟨e, hl, hs⟩ := cut_at hx
 refine ⟨(xs.take i).flatMap enc, (xs.drop (i + 1)).flatMap enc ++ rest, by rw [flat_len hk, hl], ?_, fun y => ?_⟩
 ·have hb := h.blk
  rw [e] at hb
  simpa [List.flatMap_append, List.flatMap_cons, List.append_assoc] using hb
 rw [hs]
 simp [List.flatMap_append, List.flatMap_cons, List.append_assoc]
theorem Sw.read (h : Sw w wr g T enc rest xs) {i : Nat} {x : α} (hx : xs[i]? = some x) (hk : ∀ x, (enc x).length = k) : wr.rangeAt g (i * k) (enc x) := by
  obtain ⟨A, C, hA, hb, _⟩ := h.split hx hk
  intro j v hv
  rw [hb.cell, List.getElem?_toArray, List.getElem?_append_right (by omega), List.getElem?_append_left (by have := (List.getElem?_eq_some_iff.1 hv).1; omega)]
  rw [show i * k + j - A.length = j by omega]
  exact hv
theorem Sw.there (h : Sw w wr g T enc rest xs) {i : Nat} (hi : i < xs.length) (hk : ∀ x, (enc x).length = k) : wr.there g (i * k) k := by
  obtain ⟨A, C, hA, hb, _⟩ := h.split (List.getElem?_eq_getElem hi) hk
  have := hb.therePart (i * k) k (by simp [hk]; omega)
  exact this
theorem Sw.put (h : Sw w wr g T enc rest xs) {i : Nat} (hi : i < xs.length) (hk : ∀ x, (enc x).length = k) (y : α) : Sw w (wr.setCells g (i * k) (enc y)) g T enc rest (xs.set i y) := by
  obtain ⟨A, C, hA, hb, hs⟩ := h.split (List.getElem?_eq_getElem hi) hk
  refine ⟨?_, Own.setCells_l _ _ h.own⟩
  rw [hs, ← hA]
  exact hb.setMid _ (by rw [hk, hk])
theorem Sw.refl (hb : Blk w g T (xs.flatMap enc ++ rest).toArray) : Sw w w g T enc rest xs := ⟨hb, Own.refl _ _⟩
def swp (xs : List α) (i j : Nat) : List α := match xs[i]?, xs[j]? with | some x, some y => (xs.set i y).set j x | _, _ => xs
theorem swp_eq {i j : Nat} {x y : α} (hx : xs[i]? = some x) (hy : xs[j]? = some y) : swp xs i j = (xs.set i y).set j x := by unfold swp; rw [hx, hy]
theorem swp_len (xs : List α) (i j : Nat) : (swp xs i j).length = xs.length := by unfold swp; split <;> simp
theorem swp_cut (P M S : List α) (x y : α) : swp (P ++ x :: (M ++ y :: S)) P.length (P.length + 1 + M.length) = P ++ y :: (M ++ x :: S) := by
 have h1 : (P ++ x :: (M ++ y :: S))[P.length]? = some x := by simp
 have e : P ++ x :: (M ++ y :: S) = (P ++ x :: M) ++ y :: S := by simp
 have h2 : (P ++ x :: (M ++ y :: S))[P.length + 1 + M.length]? = some y := by
  rw [e, show P.length + 1 + M.length = (P ++ x :: M).length by simp; omega]
  simp
 rw [swp_eq h1 h2]
 have s1 : (P ++ x :: (M ++ y :: S)).set P.length y = (P ++ y :: M) ++ y :: S := by simp
 rw [s1, show P.length + 1 + M.length = (P ++ y :: M).length by simp; omega]
 simp
end
section
variable {P : Program} {l : List Oper} {Q : Exit → Act → World → Prop} {md : Region.Mode} {S : World → Prop} {i j : Nat} {oi oj : Oper} {fuel : Nat} {listed li lj listed' : Array Bool} {a : Act} {w : World}
theorem md_loads2 (hi : l[i]? = some oi) (hj : l[j]? = some oj) (hr : Region.ready md l.toArray listed = [i, j]) (hli : listed.setIfInBounds i true = li) (hlj : listed.setIfInBounds j true = lj)
  (hri : Region.ready md l.toArray li = [j]) (hrj : Region.ready md l.toArray lj = [i]) (hl : li.setIfInBounds j true = listed') (hl2 : lj.setIfInBounds i true = listed')
  (ty : TypeId) (x y : Operand) (ho : oi.op = .load ty x) (hoj : oj.op = .load ty y) (hg : oi.guard = none) (hgj : oj.guard = none) (g ox oy : Nat) (cx cy : List Value) (d : TypeDesc) (hu : P.underlying ty = some d) (hd : d.isRow = true)
  (hx : a.eval x = .pointer (some ⟨g, ox, none⟩)) (hy : (a.put oi.dst (.agg cx.toArray)).eval y = .pointer (some ⟨g, oy, none⟩)) (hy0 : a.eval y = .pointer (some ⟨g, oy, none⟩)) (hx1 : (a.put oj.dst (.agg cy.toArray)).eval x = .pointer (some ⟨g, ox, none⟩))
  (hbx : w.rangeAt g ox cx) (hby : w.rangeAt g oy cy) (hzx : (P.info? ty).map (·.size) = some cx.length) (hzy : (P.info? ty).map (·.size) = some cy.length) (hS : S w)
  (hc : (a.put oj.dst (.agg cy.toArray)).put oi.dst (.agg cx.toArray) = (a.put oi.dst (.agg cx.toArray)).put oj.dst (.agg cy.toArray))
  (h : wpAnyH P md l.toArray Q S fuel listed' ((a.put oi.dst (.agg cx.toArray)).put oj.dst (.agg cy.toArray)) w) : wpAnyH P md l.toArray Q S (fuel + 1 + 1) listed a w := by
 have wi : ∀ t, Region.wanted oi (yielded l.toArray t) = true := fun t => by simp only [Region.wanted, hg]
 have wj : ∀ t, Region.wanted oj (yielded l.toArray t) = true := fun t => by simp only [Region.wanted, hgj]
 refine wpAnyH_ready hr (by simp) (AllReadyH.cons (by rw [List.getElem?_toArray]; exact hi) (fun K hK => ?_) (AllReadyH.cons (by rw [List.getElem?_toArray]; exact hj) (fun K hK => ?_) AllReadyH.nil))
 ·rw [if_pos (wi _)]
  refine wp_load_mid ty x ho g ox hx cx d hbx hu hd hzx (hK.out _ _ hS (fun _ => ?_))
  rw [hli]
  refine wpAnyH_one_l hj hri (fun K hK => ?_)
  rw [if_pos (wj _)]
  refine wp_load_mid ty y hoj g oy hy cy d hby hu hd hzy (hK.out _ _ hS (fun _ => ?_))
  rw [hl]
  exact h
 rw [if_pos (wj _)]
 refine wp_load_mid ty y hoj g oy hy0 cy d hby hu hd hzy (hK.out _ _ hS (fun _ => ?_))
 rw [hlj]
 refine wpAnyH_one_l hi hrj (fun K hK => ?_)
 rw [if_pos (wi _)]
 refine wp_load_mid ty x ho g ox hx1 cx d hbx hu hd hzx (hK.out _ _ hS (fun _ => ?_))
 rw [hl2, hc]
 exact h
theorem md_rstore (hi : l[i]? = some oi) (hr : Region.ready md l.toArray listed = [i]) (hg : oi.guard = none) (ty : TypeId) (x y : Operand) (ho : oi.op = .store ty x y)
    (g o : Nat) (cs : List Value) (hx : a.eval x = .pointer (some ⟨g, o, none⟩)) (hy : a.eval y = .agg cs.toArray) (ht : w.there g o cs.length)
    (hz : (P.info? ty).map (·.size) = some cs.length) (h1 : ∀ v, v ∈ cs → v.oneCell' = true) (hS : S (w.setCells g o cs)) (hl : listed.setIfInBounds i true = listed')
    (h : wpAnyH P md l.toArray Q S fuel listed' (a.put oi.dst undef) (w.setCells g o cs)) : wpAnyH P md l.toArray Q S (fuel + 1) listed a w :=
  wpAnyH_one_l hi hr (fun K hK => by
    rw [if_pos (by simp only [Region.wanted, hg])]
    exact wp_store_mid ty x y ho g o cs.toArray hx hy (by simpa using ht) (by simpa using hz) (all_oneCell_toArray h1) (hK.out _ _ hS (fun _ => by rw [hl]; exact h)))
end
end Go.Proofs.YtmgibncehlpfkaaGreat

namespace Go.Proofs.YtmgibncehlpfkaaGreat
open Go.RowKit

section
variable {α : Type}
def swpN (xs : List α) (a b : Nat) : Nat → List α
  | 0 => xs
  | t + 1 => swp (swpN xs a b t) (a + t) (b + t)
theorem swpN_succ (xs : List α) (a b t : Nat) : swpN xs a b (t + 1) = swp (swpN xs a b t) (a + t) (b + t) := rfl
theorem swpN_len (xs : List α) (a b t : Nat) : (swpN xs a b t).length = xs.length := by
  induction t with
  | zero => rfl
  | succ t ih => rw [swpN_succ, swp_len, ih]
theorem swpN_cut (P X M Y S : List α) (n : Nat) (hX : X.length = n) (hY : Y.length = n) : swpN (P ++ (X ++ (M ++ (Y ++ S)))) P.length (P.length + n + M.length) n = P ++ (Y ++ (M ++ (X ++ S))) := by
 have key : ∀ t, t ≤ n → swpN (P ++ (X ++ (M ++ (Y ++ S)))) P.length (P.length + n + M.length) t = P ++ (Y.take t ++ (X.drop t ++ (M ++ (X.take t ++ (Y.drop t ++ S))))) := by
  intro t
  induction t with
  | zero => intro _; simp [swpN]
  | succ t ih =>
   intro ht
   rw [swpN_succ, ih (by omega)]
   have hx : t < X.length := by omega
   have hy : t < Y.length := by omega
   have ex : X.drop t = X[t] :: X.drop (t + 1) := List.drop_eq_getElem_cons hx
   have ey : Y.drop t = Y[t] :: Y.drop (t + 1) := List.drop_eq_getElem_cons hy
   have e1 : P ++ (Y.take t ++ (X.drop t ++ (M ++ (X.take t ++ (Y.drop t ++ S))))) = (P ++ Y.take t) ++ X[t] :: ((X.drop (t + 1) ++ (M ++ X.take t)) ++ Y[t] :: (Y.drop (t + 1) ++ S)) := by rw [ex, ey]; simp only [List.append_assoc, List.cons_append]
   have l1 : (P ++ Y.take t).length = P.length + t := by simp; omega
   have l2 : (X.drop (t + 1) ++ (M ++ X.take t)).length = n - 1 + M.length := by simp; omega
   have c := swp_cut (P ++ Y.take t) (X.drop (t + 1) ++ (M ++ X.take t)) (Y.drop (t + 1) ++ S) X[t] Y[t]
   rw [l1, l2, show P.length + t + 1 + (n - 1 + M.length) = P.length + n + M.length + t by omega] at c
   rw [e1, c, List.take_succ_eq_append_getElem hx, List.take_succ_eq_append_getElem hy]
   simp only [List.append_assoc, List.cons_append, List.nil_append]
 have h := key n (Nat.le_refl _)
 rw [h]
 have a1 : Y.take n = Y := List.take_of_length_le (by omega)
 have a2 : X.take n = X := List.take_of_length_le (by omega)
 have a3 : X.drop n = [] := List.drop_of_length_le (by omega)
 have a4 : Y.drop n = [] := List.drop_of_length_le (by omega)
 rw [a1, a2, a3, a4]
 simp
theorem get_mid (P A R : List α) (t : Nat) (h : t < A.length) : (P ++ (A ++ R))[P.length + t]? = A[t]? := by
  rw [List.getElem?_append_right (by omega), show P.length + t - P.length = t by omega, List.getElem?_append_left h]
theorem swps_right (P B S : List α) (x : α) (t : Nat) (h : t < B.length) : swp (P ++ (B.take t ++ x :: (B.drop t ++ S))) (P.length + t) (P.length + t + 1) = P ++ (B.take (t + 1) ++ x :: (B.drop (t + 1) ++ S)) := by
 have e : B.drop t = B[t] :: B.drop (t + 1) := List.drop_eq_getElem_cons h
 have e1 : P ++ (B.take t ++ x :: (B.drop t ++ S)) = (P ++ B.take t) ++ x :: ([] ++ B[t] :: (B.drop (t + 1) ++ S)) := by rw [e]; simp only [List.append_assoc, List.cons_append, List.nil_append]
 have l1 : (P ++ B.take t).length = P.length + t := by simp; omega
 have c := swp_cut (P ++ B.take t) [] (B.drop (t + 1) ++ S) x B[t]
 rw [l1, List.length_nil, Nat.add_zero] at c
 rw [e1]
 refine c.trans ?_
 rw [List.take_succ_eq_append_getElem h]
 simp only [List.append_assoc, List.cons_append, List.nil_append]
theorem swps_left (P A S : List α) (y : α) (t : Nat) (h : t < A.length) : swp (P ++ (A.take (t + 1) ++ y :: (A.drop (t + 1) ++ S))) (P.length + t + 1) (P.length + t) = P ++ (A.take t ++ y :: (A.drop t ++ S)) := by
 have e : A.drop t = A[t] :: A.drop (t + 1) := List.drop_eq_getElem_cons h
 have hx : (P ++ (A.take (t + 1) ++ y :: (A.drop (t + 1) ++ S)))[P.length + t + 1]? = some y := by
  rw [List.getElem?_append_right (by omega), List.getElem?_append_right (by simp; omega)]
  simp
  rw [show P.length + t + 1 - P.length - min (t + 1) A.length = 0 by omega]
  rfl
 have hy : (P ++ (A.take (t + 1) ++ y :: (A.drop (t + 1) ++ S)))[P.length + t]? = some A[t] := by
  rw [List.getElem?_append_right (by omega), List.getElem?_append_left (by simp; omega)]
  rw [show P.length + t - P.length = t by omega]
  simp [h]
 rw [swp_eq hx hy]
 have e1 : P ++ (A.take (t + 1) ++ y :: (A.drop (t + 1) ++ S)) = (P ++ A.take t) ++ A[t] :: ([] ++ y :: (A.drop (t + 1) ++ S)) := by rw [List.take_succ_eq_append_getElem h]; simp only [List.append_assoc, List.cons_append, List.nil_append]
 have l1 : (P ++ A.take t).length = P.length + t := by simp; omega
 rw [e1, e]
 have s1 : ((P ++ A.take t) ++ A[t] :: ([] ++ y :: (A.drop (t + 1) ++ S))).set (P.length + t + 1) A[t] = (P ++ A.take t) ++ A[t] :: ([] ++ A[t] :: (A.drop (t + 1) ++ S)) := by
  rw [← l1, List.set_append_right _ _ (by omega)]
  simp
 rw [s1, ← l1, List.set_append_right _ _ (by omega), Nat.sub_self, List.set_cons_zero]
 simp only [List.append_assoc, List.cons_append, List.nil_append]
namespace Stb
variable {lt : α → α → Bool}
theorem mrg_one_right (A : List α) (y : α) : mrg lt A [y] = ins lt A y := by
  induction A with
  | nil => simp [mrg, ins]
  | cons x A ih => rw [mrg_cons, ins]; split; · rw [mrg_nil]
                   rw [ih]
theorem mrg_one_left (B1 B2 : List α) (x : α) (h1 : ∀ z, z ∈ B1 → lt z x = true) (h2 : ∀ z, z ∈ B2 → lt z x = false) : mrg lt [x] (B1 ++ B2) = B1 ++ x :: B2 := by
  have h := mrg_app (lt := lt) [] [x] B1 B2 (by simp) (fun y hy z hz => by simp at hz; rw [hz]; exact h1 y hy)
  have h3 := mrg_app (lt := lt) [x] [] [] B2 (fun z hz y hy => by simp at hz; rw [hz]; exact h2 y hy) (by simp)
  simp only [List.append_nil, List.nil_append, nil_mrg, mrg_nil, List.singleton_append] at h h3
  rw [h, h3]
theorem Srt.le (W : Wk lt) {l : List α} (h : Srt lt l) {i j : Nat} {x y : α} (hi : l[i]? = some x) (hj : l[j]? = some y) (hij : i ≤ j) : lt y x = false := by
  rcases Nat.lt_or_ge i j with hlt | hge
  · obtain ⟨h1, rfl⟩ := List.getElem?_eq_some_iff.1 hi
    obtain ⟨h2, rfl⟩ := List.getElem?_eq_some_iff.1 hj
    exact (List.pairwise_iff_getElem.1 h) i j h1 h2 hlt
  obtain rfl : i = j := by omega
  rw [hi] at hj
  injection hj with hj
  subst hj
  exact W.irr x
theorem mem_take {l : List α} {n : Nat} {z : α} (h : z ∈ l.take n) : ∃ i, i < n ∧ l[i]? = some z := by
  obtain ⟨i, hi⟩ := List.mem_iff_getElem?.1 h
  rw [List.getElem?_take] at hi
  by_cases h1 : i < n
  · rw [if_pos h1] at hi; exact ⟨i, h1, hi⟩
  rw [if_neg h1] at hi; cases hi
theorem mem_drop {l : List α} {n : Nat} {z : α} (h : z ∈ l.drop n) : ∃ i, n ≤ i ∧ l[i]? = some z := by
  obtain ⟨i, hi⟩ := List.mem_iff_getElem?.1 h
  rw [List.getElem?_drop] at hi
  exact ⟨n + i, by omega, hi⟩
theorem one_left (W : Wk lt) {B : List α} {x : α} {s : Nat} (hB : Srt lt B) (h1 : s = 0 ∨ ∃ z, B[s - 1]? = some z ∧ lt z x = true) (h2 : B.length ≤ s ∨ ∃ z, B[s]? = some z ∧ lt z x = false) : mrg lt [x] B = B.take s ++ x :: B.drop s := by
 have h := mrg_one_left (lt := lt) (B.take s) (B.drop s) x (fun z hz => by
  obtain ⟨i, hi, hg⟩ := mem_take hz
  rcases h1 with rfl | ⟨u, hu, hl⟩
  ·omega
  ·have := hB.le W hg hu (by omega)
   cases e : lt z x with
   | true => rfl
   | false => rw [W.trans x z u e this] at hl; cases hl) (fun z hz => by
  obtain ⟨i, hi, hg⟩ := mem_drop hz
  rcases h2 with h2 | ⟨u, hu, hl⟩
  ·have := (List.getElem?_eq_some_iff.1 hg).1; omega
  exact W.trans x u z hl (hB.le W hu hg hi))
 rwa [List.take_append_drop] at h
theorem one_right (W : Wk lt) {A : List α} {y : α} {s : Nat} (hA : Srt lt A) (h1 : s = 0 ∨ ∃ z, A[s - 1]? = some z ∧ lt y z = false) (h2 : A.length ≤ s ∨ ∃ z, A[s]? = some z ∧ lt y z = true) : mrg lt A [y] = A.take s ++ y :: A.drop s := by
 rw [mrg_one_right]
 have h := ins_split (lt := lt) (A.take s) (A.drop s) y (fun z hz => by
  obtain ⟨i, hi, hg⟩ := mem_take hz
  rcases h1 with rfl | ⟨u, hu, hl⟩
  ·omega
  ·exact W.trans z u y (hA.le W hg hu (by omega)) hl) (fun z hz => by
  obtain ⟨i, hi, hg⟩ := mem_drop hz
  rcases h2 with h2 | ⟨u, hu, hl⟩
  ·have := (List.getElem?_eq_some_iff.1 hg).1; omega
  have := hA.le W hu hg hi
  cases e : lt y z with
  | true => rfl
  | false => rw [W.trans u z y this e] at hl; cases hl)
 rwa [List.take_append_drop] at h
theorem sym_split (W : Wk lt) {A B : List α} {s r : Nat} (hA : Srt lt A) (hB : Srt lt B) (h1 : s = 0 ∨ B.length ≤ r ∨ ∃ x y, A[s - 1]? = some x ∧ B[r]? = some y ∧ lt y x = false) (h2 : r = 0 ∨ A.length ≤ s ∨ ∃ x y, A[s]? = some x ∧ B[r - 1]? = some y ∧ lt y x = true) :
  mrg lt A B = mrg lt (A.take s) (B.take r) ++ mrg lt (A.drop s) (B.drop r) := by
 have h := mrg_app (lt := lt) (A.take s) (A.drop s) (B.take r) (B.drop r) (fun x hx y hy => by
  obtain ⟨i, hi, hgx⟩ := mem_take hx
  obtain ⟨j, hj, hgy⟩ := mem_drop hy
  rcases h1 with rfl | h1 | ⟨u, v, hu, hv, hl⟩
  ·omega
  ·have := (List.getElem?_eq_some_iff.1 hgy).1; omega
  ·exact W.trans x v y (W.trans x u v (hA.le W hgx hu (by omega)) hl) (hB.le W hv hgy hj)) (fun y hy x hx => by
  obtain ⟨i, hi, hgy⟩ := mem_take hy
  obtain ⟨j, hj, hgx⟩ := mem_drop hx
  rcases h2 with rfl | h2 | ⟨u, v, hu, hv, hl⟩
  ·omega
  ·have := (List.getElem?_eq_some_iff.1 hgx).1; omega
  have k1 := hA.le W hu hgx hj
  have k2 := hB.le W hgy hv (by omega)
  cases e : lt y x with
  | true => rfl
  | false => rw [W.trans u y v (W.trans u x y k1 e) k2] at hl; cases hl)
 rwa [List.take_append_drop, List.take_append_drop] at h
theorem mrg_take_nil {A B : List α} {s r : Nat} (h : ¬ (0 < s ∧ 0 < r)) : mrg lt (A.take s) (B.take r) = A.take s ++ B.take r := by
  rcases Nat.eq_zero_or_pos s with rfl | h1
  · simp [nil_mrg]
  obtain rfl : r = 0 := by omega
  simp [mrg_nil]
theorem mrg_drop_nil {A B : List α} {s r : Nat} (h : ¬ (s < A.length ∧ r < B.length)) : mrg lt (A.drop s) (B.drop r) = A.drop s ++ B.drop r := by
  rcases Nat.lt_or_ge s A.length with h1 | h1
  · rw [List.drop_of_length_le (show B.length ≤ r by omega), mrg_nil, List.append_nil]
  rw [List.drop_of_length_le h1, nil_mrg, List.nil_append]
theorem srt_take {l : List α} (h : Srt lt l) (n : Nat) : Srt lt (l.take n) := h.sublist (List.take_sublist n l)
theorem srt_drop {l : List α} (h : Srt lt l) (n : Nat) : Srt lt (l.drop n) := h.sublist (List.drop_sublist n l)
end Stb
end
theorem ne_of_len {α : Type} {l : List α} (h : 0 < l.length) : l ≠ [] := by intro e; rw [e] at h; simp at h
def SymF (P A B S a m b N ss mid M n p : Nat) : Prop := P = a ∧ a + A = m ∧ m + B = b ∧ P + (A + (B + S)) = N ∧ 2 ≤ A ∧ 2 ≤ B ∧ ss = a + b ∧ mid = ss / 2 ∧ a + M = mid ∧ n = mid + m ∧ p + 1 = n
def SymG (A B a M lo hi st r0 : Nat) : Prop := st = a + lo ∧ r0 = a + hi ∧ lo ≤ hi ∧ hi ≤ A ∧ hi ≤ M ∧ M ≤ lo + B
theorem sym_ar {P A B S a m b N ss mid M n p lo hi st r0 s e i j : Nat} (hsz : N ≤ 100000) (hF : SymF P A B S a m b N ss mid M n p) (hG : SymG A B a M lo hi st r0) (hls : lo ≤ s) (heh : e ≤ hi) (hi_ : i = a + s) (hj_ : j = a + e) (hlt : s < e) :
  ∃ sq h c ph : Nat, (sq = i + j ∧ h = sq / 2 ∧ ph + h = p ∧ i < j ∧ sq ≤ 200000 ∧ h < N ∧ ph < N ∧ i ≤ 100000 ∧ p ≤ 200000) ∧ (h = a + c ∧ s ≤ c ∧ c < e) ∧ c < A ∧ M - c - 1 < B ∧ P + c = h ∧ P + A + (M - c - 1) = ph := by
 obtain ⟨f1, f2, f3, f4, f5, f6, f7, f8, f9, f10, f11⟩ := hF
 obtain ⟨g1, g2, g3, g4, g5, g6⟩ := hG
 refine ⟨i + j, (i + j) / 2, (i + j) / 2 - a, p - (i + j) / 2, ?_⟩
 have h1 : a + s ≤ (i + j) / 2 := by omega
 have h2 : (i + j) / 2 < a + e := by omega
 have h3 : i + j ≤ 200000 := by omega
 generalize hh : (i + j) / 2 = h at *
 exact ⟨⟨rfl, rfl, by omega, by omega, h3, by omega, by omega, by omega, by omega⟩, ⟨by omega, by omega, by omega⟩, by omega, by omega, by omega, by omega⟩
theorem sym_ar2 {P A B S a m b N ss mid M n p lo hi st r0 s i : Nat} (hsz : N ≤ 100000) (hF : SymF P A B S a m b N ss mid M n p) (hG : SymG A B a M lo hi st r0) (hls : lo ≤ s) (heh : s ≤ hi) (hi_ : i = a + s) :
  ∃ r en : Nat, (s + r = M ∧ en + i = n ∧ r ≤ B ∧ s ≤ A ∧ en ≤ 200000) ∧ P + (s + (r + ((A - s) + ((B - r) + S)))) = N ∧ ((i < m ↔ s < A) ∧ (m < en ↔ 0 < r) ∧ (a < i ↔ 0 < s) ∧ (i < mid ↔ 0 < r) ∧ (mid < en ↔ s < A) ∧ (en < b ↔ r < B)) ∧
   (P + s = i ∧ i + (A - s) = m ∧ m + r = en ∧ a + s = i ∧ i + r = mid ∧ mid + (A - s) = en ∧ en + (B - r) = b ∧ P + (s + r) = mid ∧ P = a) ∧ s + r < A + B ∧ (A - s) + (B - r) < A + B := by
 obtain ⟨f1, f2, f3, f4, f5, f6, f7, f8, f9, f10, f11⟩ := hF
 obtain ⟨g1, g2, g3, g4, g5, g6⟩ := hG
 have hm : 0 < M ∧ M < A + B := by omega
 refine ⟨M - s, m + (M - s), ⟨by omega, by omega, by omega, by omega, by omega⟩, by omega, ⟨by omega, by omega, by omega, by omega, by omega, by omega⟩, ⟨by omega, by omega, by omega, by omega, by omega, by omega, by omega, by omega, by omega⟩, by omega, by omega⟩
theorem sym_ar0 {P A B S a m b N ss mid M n p : Nat} (hsz : N ≤ 100000) (hF : SymF P A B S a m b N ss mid M n p) (h : mid < m) : ∃ st lo, st + b = n ∧ st ≤ 200000 ∧ st = a + lo ∧ lo + B = M ∧ mid = a + M ∧ lo ≤ M ∧ M ≤ A := by
  obtain ⟨f1, f2, f3, f4, f5, f6, f7, f8, f9, f10, f11⟩ := hF
  exact ⟨n - b, n - b - a, by omega, by omega, by omega, by omega, by omega, by omega, by omega⟩
theorem sym_ar1 {P A B S a m b N ss mid M n p : Nat} (hF : SymF P A B S a m b N ss mid M n p) (h : ¬ mid < m) : A ≤ M ∧ M ≤ B ∧ m = a + A := by
  obtain ⟨f1, f2, f3, f4, f5, f6, f7, f8, f9, f10, f11⟩ := hF
  exact ⟨by omega, by omega, by omega⟩
end Go.Proofs.YtmgibncehlpfkaaGreat

namespace Go.Proofs.YtmgibncehlpfkaaGreat
open Go.RowKit
namespace Stb
variable {α : Type} {lt : α → α → Bool}
def Blks (lt : α → α → Bool) (s : Nat) (xs row : List α) : Prop := ∃ (D : List (List α)) (t : List α), (∀ c, c ∈ D → c.length = s) ∧ t.length < s ∧ xs = D.flatten ++ t ∧ row = (D.map (stab lt)).flatten ++ stab lt t
def Half (lt : α → α → Bool) (s a : Nat) (xs row : List α) : Prop := ∃ (D R : List (List α)) (t : List α), (∀ c, c ∈ D → c.length = 2 * s) ∧ (∀ c, c ∈ R → c.length = s) ∧ t.length < s ∧ xs = D.flatten ++ (R.flatten ++ t) ∧ row = (D.map (stab lt)).flatten ++ ((R.map (stab lt)).flatten ++ stab lt t) ∧ a = D.flatten.length
def Fst (lt : α → α → Bool) (s a : Nat) (xs row : List α) : Prop := ∃ (D : List (List α)) (t : List α), (∀ c, c ∈ D → c.length = s) ∧ xs = D.flatten ++ t ∧ row = (D.map (stab lt)).flatten ++ t ∧ a = D.flatten.length
theorem flat_stab_len (D : List (List α)) : (D.map (stab lt)).flatten.length = D.flatten.length := by
  induction D with
  | nil => rfl
  | cons c D ih => simp only [List.map_cons, List.flatten_cons, List.length_append, stab_len, ih]
theorem flat_len_mul {s : Nat} (R : List (List α)) (h : ∀ c, c ∈ R → c.length = s) : R.flatten.length = R.length * s := by
  induction R with
  | nil => simp
  | cons c R ih => rw [List.flatten_cons, List.length_append, h c (by simp), ih (fun c hc => h c (by simp [hc])), List.length_cons, Nat.add_mul]; omega
theorem Fst.start (s : Nat) (xs : List α) : Fst lt s 0 xs xs := ⟨[], xs, by simp, by simp, by simp, by simp⟩
theorem Fst.cut {s a : Nat} {xs row : List α} (h : Fst lt s a xs row) (hb : a + s ≤ xs.length) :
  ∃ P X S : List α, row = P ++ (X ++ S) ∧ P.length = a ∧ X.length = s ∧ Fst lt s (a + s) xs (P ++ (stab lt X ++ S)) := by
 obtain ⟨D, t, h1, rfl, rfl, rfl⟩ := h
 rw [List.length_append] at hb
 have lx : (t.take s).length = s := by rw [List.length_take]; omega
 refine ⟨(D.map (stab lt)).flatten, t.take s, t.drop s, by rw [List.take_append_drop], flat_stab_len D, lx, D ++ [t.take s], t.drop s, ?_, ?_, ?_, ?_⟩
 ·intro c hc
  rcases List.mem_append.1 hc with hc | hc
  ·exact h1 c hc
  simp at hc; rw [hc]; exact lx
 ·simp
 ·simp
 simp; omega
theorem Fst.last {s a : Nat} {xs row : List α} (h : Fst lt s a xs row) (hb : xs.length < a + s) : ∃ P X : List α, row = P ++ (X ++ []) ∧ P.length = a ∧ a + X.length = xs.length ∧ Blks lt s xs (P ++ (stab lt X ++ [])) := by
  obtain ⟨D, t, h1, rfl, rfl, rfl⟩ := h
  rw [List.length_append] at hb
  exact ⟨(D.map (stab lt)).flatten, t, by simp, flat_stab_len D, by simp, D, t, h1, by omega, rfl, by simp⟩
theorem Blks.half {s : Nat} {xs row : List α} (h : Blks lt s xs row) : Half lt s 0 xs row := by
  obtain ⟨D, t, h1, h2, rfl, rfl⟩ := h
  exact ⟨[], D, t, by simp, h1, h2, by simp, by simp, by simp⟩
theorem Half.cut (W : Wk lt) {s a : Nat} {xs row : List α} (h : Half lt s a xs row) (hs : 0 < s) (hb : a + 2 * s ≤ xs.length) :
  ∃ P A B S : List α, row = P ++ (A ++ (B ++ S)) ∧ P.length = a ∧ A.length = s ∧ B.length = s ∧ Srt lt A ∧ Srt lt B ∧ Half lt s (a + 2 * s) xs (P ++ (mrg lt A B ++ S)) := by
 obtain ⟨D, R, t, h1, h2, h3, rfl, rfl, rfl⟩ := h
 have hl := flat_len_mul R h2
 rw [List.length_append, List.length_append, hl] at hb
 match R, h2, hl with
 | [], _, _ => exfalso; simp at hb; omega
 | [c], _, _ => exfalso; simp at hb; omega
 | c :: c2 :: R, h2, _ =>
  have l1 := h2 c (by simp)
  have l2 := h2 c2 (by simp)
  refine ⟨(D.map (stab lt)).flatten, stab lt c, stab lt c2, (R.map (stab lt)).flatten ++ stab lt t, by simp, flat_stab_len D, by rw [stab_len, l1], by rw [stab_len, l2], stab_srt W c, stab_srt W c2, D ++ [c ++ c2], R, t, ?_, fun c hc => h2 c (by simp [hc]), h3, ?_, ?_, ?_⟩
  ·intro x hx
   rcases List.mem_append.1 hx with hx | hx
   ·exact h1 x hx
   simp at hx; rw [hx]; simp; omega
  ·simp
  ·rw [mrg_stab W]; simp
  simp; omega
theorem Half.last (W : Wk lt) {s a : Nat} {xs row : List α} (h : Half lt s a xs row) (hb : xs.length < a + 2 * s) (hm : a + s < xs.length) :
  ∃ P A B : List α, row = P ++ (A ++ (B ++ [])) ∧ P.length = a ∧ A.length = s ∧ a + s + B.length = xs.length ∧ Srt lt A ∧ Srt lt B ∧ Blks lt (2 * s) xs (P ++ (mrg lt A B ++ [])) := by
 obtain ⟨D, R, t, h1, h2, h3, rfl, rfl, rfl⟩ := h
 have hl := flat_len_mul R h2
 rw [List.length_append, List.length_append, hl] at hb hm
 match R, h2, hl with
 | [], _, _ => exfalso; simp at hm; omega
 | [c], h2, _ =>
  have l1 := h2 c (by simp)
  refine ⟨(D.map (stab lt)).flatten, stab lt c, stab lt t, by simp, flat_stab_len D, by rw [stab_len, l1], by rw [stab_len]; simp; omega, stab_srt W c, stab_srt W t, D, c ++ t, h1, by simp; omega, by simp, ?_⟩
  rw [mrg_stab W]; simp
 | c :: c2 :: R, _, _ =>
  exfalso
  simp only [List.length_cons] at hb
  have := Nat.mul_le_mul_right s (show 2 ≤ R.length + 1 + 1 by omega)
  omega
theorem Half.none {s a : Nat} {xs row : List α} (h : Half lt s a xs row) (hb : xs.length < a + 2 * s) (hm : ¬ a + s < xs.length) : Blks lt (2 * s) xs row := by
 obtain ⟨D, R, t, h1, h2, h3, rfl, rfl, rfl⟩ := h
 have hl := flat_len_mul R h2
 rw [List.length_append, List.length_append, hl] at hb hm
 match R, h2, hl with
 | [], _, _ => exact ⟨D, t, h1, by omega, by simp, by simp⟩
 | [c], h2, _ =>
  have l1 := h2 c (by simp)
  have e1 : [c].length * s = s := by simp
  rw [e1] at hm hb
  have : t = [] := List.eq_nil_of_length_eq_zero (by omega)
  subst this
  exact ⟨D, c, h1, by simp at h3; omega, by simp, by simp [stab_nil]⟩
 | c :: c2 :: R, _, _ =>
  exfalso
  simp only [List.length_cons] at hb
  have := Nat.mul_le_mul_right s (show 2 ≤ R.length + 1 + 1 by omega)
  omega
theorem Blks.all {s : Nat} {xs row : List α} (h : Blks lt s xs row) (hs : xs.length ≤ s) : row = stab lt xs := by
 obtain ⟨D, t, h1, h2, rfl, rfl⟩ := h
 have hl := flat_len_mul D h1
 rw [List.length_append, hl] at hs
 match D, h1 with
 | [], _ => simp
 | [c], h1 =>
  have l1 := h1 c (by simp)
  have e1 : [c].length * s = s := by simp
  rw [e1] at hs
  have : t = [] := List.eq_nil_of_length_eq_zero (by omega)
  subst this
  simp [stab_nil]
 | c :: c2 :: D, _ =>
  exfalso
  simp only [List.length_cons] at hs
  have := Nat.mul_le_mul_right s (show 2 ≤ D.length + 1 + 1 by omega)
  omega
theorem Blks.len {s : Nat} {xs row : List α} (h : Blks lt s xs row) : row.length = xs.length := by
  obtain ⟨D, t, _, _, rfl, rfl⟩ := h
  rw [List.length_append, List.length_append, flat_stab_len, stab_len]
theorem Half.len {s a : Nat} {xs row : List α} (h : Half lt s a xs row) : row.length = xs.length := by
  obtain ⟨D, R, t, _, _, _, rfl, rfl, _⟩ := h
  simp only [List.length_append, flat_stab_len, stab_len]
theorem Fst.len {s a : Nat} {xs row : List α} (h : Fst lt s a xs row) : row.length = xs.length := by
  obtain ⟨D, t, _, rfl, rfl, _⟩ := h
  rw [List.length_append, List.length_append, flat_stab_len]
end Stb
end Go.Proofs.YtmgibncehlpfkaaGreat

namespace Go.Proofs.YtmgibncehlpfkaaGreat
open Go.RowKit

structure SpE where
  a : RV
  b : RV
  p : Rat
  q : Rat
def SpE.cells (e : SpE) : List Value := [.bool e.a.n, .slice e.a.p e.a.l e.a.c, .bool e.a.m, .slice e.a.p2 e.a.l2 e.a.c2, .bool e.b.n, .slice e.b.p e.b.l e.b.c, .bool e.b.m, .slice e.b.p2 e.b.l2 e.b.c2]
def SpE.vl (e : SpE) : Rat × Rat := (e.p, e.q)
def SpE.Ok (L : Nat) (w : World) (e : SpE) : Prop := e.a.Is w e.p ∧ e.b.Is w e.q ∧ Nm.rl e.p ≤ L ∧ Nm.rl e.q ≤ L
def spCells (es : List SpE) : List Value := es.flatMap SpE.cells
theorem SpE.len (e : SpE) : e.cells.length = 8 := rfl
theorem SpE.one (e : SpE) : ∀ v, v ∈ e.cells → v.oneCell' = true := by simp [SpE.cells, Value.oneCell']
theorem SpE.noU (e : SpE) : NoUL e.cells := by intro x hx k; simp [SpE.cells] at hx; rcases hx with rfl | rfl | rfl | rfl | rfl | rfl | rfl | rfl <;> simp
theorem noUL_sp (es : List SpE) : NoUL (spCells es) := by
  intro x hx
  obtain ⟨e, _, he⟩ := List.mem_flatMap.1 hx
  exact SpE.noU e x he
theorem SpE.Ok.pt {L : Nat} {w : World} {e : SpE} (h : e.Ok L w) : PtIs w e.cells.toArray e.p e.q := ⟨e.a, e.b, rfl, h.1, h.2.1⟩
theorem SpE.Ok.ptIn {L : Nat} {w : World} {e : SpE} (h : e.Ok L w) : PtIn L w e.cells.toArray e.p e.q := ⟨e.a, e.b, rfl, h.1.isIn h.2.2.1, h.2.1.isIn h.2.2.2⟩
theorem SpE.Ok.ext {L : Nat} {w w' : World} {e : SpE} (h : e.Ok L w) (x : Ext w w') : e.Ok L w' := ⟨h.1.ext x, h.2.1.ext x, h.2.2⟩
theorem SpE.Ok.map {L : Nat} {w w' : World} {e : SpE} (h : e.Ok L w) (x : ∀ (r : RV) (q : Rat), r.Is w q → r.Is w' q) : e.Ok L w' := ⟨x _ _ h.1, x _ _ h.2.1, h.2.2⟩
theorem PtIs.sp {L : Nat} {w : World} {cs : Array Value} {p q : Rat} (h : PtIs w cs p q) (h1 : Nm.rl p ≤ L) (h2 : Nm.rl q ≤ L) : ∃ e : SpE, cs = e.cells.toArray ∧ e.vl = (p, q) ∧ e.Ok L w := by
  obtain ⟨a, b, rfl, ha, hb⟩ := h
  exact ⟨⟨a, b, p, q⟩, rfl, rfl, ha, hb, h1, h2⟩
theorem spCells_length (es : List SpE) : (spCells es).length = es.length * 8 := flat_len SpE.len es
theorem spCells_snoc (es : List SpE) (e : SpE) : spCells (es ++ [e]) = spCells es ++ e.cells := by simp [spCells]
def SpR (L : Nat) (w : World) (base : Nat) (v : Value) (es : List SpE) : Prop := RowN w base 39 8 v es.length (spCells es) ∧ ∀ e, e ∈ es → e.Ok L w
theorem SpR.ext {L : Nat} {w w' : World} {base : Nat} {v : Value} {es : List SpE} (h : SpR L w base v es) (x : Ext w w') : SpR L w' base v es := ⟨h.1.ext x, fun e he => (h.2 e he).ext x⟩
theorem SpR.form {L : Nat} {w : World} {base : Nat} {v : Value} {es : List SpE} (h : SpR L w base v es) :
    (v = .slice none 0 0 ∧ es = []) ∨ ∃ g cap rest, v = .slice (some ⟨g, 0, none⟩) es.length cap ∧ base ≤ g ∧ Sw w w g 39 SpE.cells rest es ∧ es.length ≤ cap ∧ cap ≤ maxLen ∧ (spCells es).length + rest.length = cap * 8 ∧ NoUL rest := by
  obtain ⟨h1, ⟨rfl, h2⟩ | ⟨g, cap, rest, rfl, hb, hg, h3, h4, h5, h6⟩⟩ := h.1
  · exact Or.inl ⟨rfl, List.eq_nil_of_length_eq_zero h2⟩
  exact Or.inr ⟨g, cap, rest, rfl, hb, Sw.refl hg, h3, h4, h5, h6.right⟩
def SpansV (L : Nat) (w : World) (v : Value) (ps : List (Rat × Rat)) : Prop :=
  ∃ (A : Option Addr) (cap : Nat), v = .slice A ps.length cap ∧ (0 < ps.length → ∃ g off, A = some ⟨g, off, none⟩ ∧ ∀ i p, ps[i]? = some p → ∃ cs : List Value, w.rangeAt g (off + i * 8) cs ∧ PtIn L w cs.toArray p.1 p.2)
theorem SpansV.ext {L : Nat} {w w' : World} {v : Value} {ps : List (Rat × Rat)} (h : SpansV L w v ps) (x : Ext w w') : SpansV L w' v ps := by
  obtain ⟨A, cap, h1, h2⟩ := h
  refine ⟨A, cap, h1, fun h0 => ?_⟩
  obtain ⟨g, off, h3, h4⟩ := h2 h0
  refine ⟨g, off, h3, fun i p hp => ?_⟩
  obtain ⟨cs, h5, h6⟩ := h4 i p hp
  exact ⟨cs, fun j v hv => x.get (h5 j v hv), h6.ext x⟩
theorem SpR.reads {L : Nat} {w : World} {base : Nat} {v : Value} {es : List SpE} (h : SpR L w base v es) : SpansV L w v (es.map SpE.vl) := by
  rcases h.form with ⟨rfl, rfl⟩ | ⟨g, cap, rest, rfl, _, hs, _⟩
  · exact ⟨none, 0, rfl, fun h0 => absurd h0 (by simp)⟩
  refine ⟨some ⟨g, 0, none⟩, cap, by rw [List.length_map], fun _ => ⟨g, 0, rfl, fun i p hp => ?_⟩⟩
  rw [List.getElem?_map] at hp
  obtain ⟨e, he, rfl⟩ := Option.map_eq_some_iff.1 hp
  refine ⟨e.cells, by rw [Nat.zero_add]; exact hs.read he SpE.len, (h.2 e (List.mem_of_getElem? he)).ptIn⟩
end Go.Proofs.YtmgibncehlpfkaaGreat

namespace Go.Proofs.YtmgibncehlpfkaaGreat
open Go.RowKit
attribute [local go_sem ↓] Go.wp_at_zero Go.wp_at_succ run_max_ii run_min_ii
set_option maxRecDepth 20000 in
set_option maxHeartbeats 4000000 in
theorem mergeCmp_any (L : Nat) (ca cb : Array Value) (p q r s : Rat) (w : World) (ha : PtIn L w ca p q) (hb : PtIn L w cb r s) (hL : L ≤ 70000) :
  Calls Tryz.prog 26 #[.agg ca, .agg cb] w fun e w' => e = .returned (.int .i64 (rcmp p r)) ∧ Ext w w' := by
 have ZA := ha.size
 have ZB := hb.size
 have Fa := zH ha
 have Fb := zH hb
 clear ha hb
 go_enter Tryz.func26, Tryz.ntmps26
 go_upto_region 1 with fail
 have hbx0 : Blk ((w.alloc (.cells ca 39)).alloc (.cells cb 39)) (w.heap.size) 39 ca := Blk.ext (Blk.new_at w _ (by simp) _ _) ((Ext.refl _).alloc _)
 have hbx1 : Blk ((w.alloc (.cells ca 39)).alloc (.cells cb 39)) (w.heap.size + 1) 39 cb := Blk.ext (Blk.new_at (w.alloc (.cells ca 39)) _ (by simp) _ _) (Ext.refl _)
 have hE : Ext w ((w.alloc (.cells ca 39)).alloc (.cells cb 39)) := (((Ext.refl _).alloc _).alloc _)
 generalize ((w.alloc (.cells ca 39)).alloc (.cells cb 39)) = wa at *
 generalize w.heap.size + 1 = bx1 at *
 have E1 : Hid (Ext w wa) := hE
 have Fbx0 := zH hbx0
 have Fbx1 := zH hbx1
 clear hE hbx0 hbx1
 refine wp_region_lit ?_
 refine pV (w' := wa) ?_
 try simp only [Act.put, zA, zB, zC]
 refine pP 0 4 Fbx0.out Tryz.underlying27 (by rw [show (ca : Array Value).size = 8 from ZA]; omega) ?_
 try simp only [Act.put, zA, zB, zC]
 refine pV (w' := wa) ?_
 try simp only [Act.put, zA, zB, zC]
 refine pP 0 4 Fbx1.out Tryz.underlying27 (by rw [show (cb : Array Value).size = 8 from ZB]; omega) ?_
 try simp only [Act.put, zA, zB, zC]
 refine mv_call (by rfl) (by go_simp) (pCmp (Fa.out.ext E1.out).c0 (Fb.out.ext E1.out).c0 hL) ?_
 rintro e w2 ⟨rfl, hx⟩
 have E2 : Hid (Ext wa w2) := hx
 clear hx
 refine ⟨_, rfl, ?_⟩
 try simp only [Act.put, zA, zB, zC]
 refine pV (w' := w2) ?_
 try simp only [Act.put, zA, zB, zC]
 go_wp2_with fail
 go_ret
 exact ⟨rfl, (tr E1 E2).out⟩
set_option maxRecDepth 20000 in
set_option maxHeartbeats 4000000 in
theorem less_any (L : Nat) (ca cb : Array Value) (p r : Rat) (w : World) (ha : NIn L w ca p) (hb : NIn L w cb r) (hL : L ≤ 60000) :
  Calls Tryz.prog 22 #[.agg ca, .agg cb] w fun e w' => e = .returned (.bool (decide (p < r))) ∧ Ext w w' := by
 have ZA := ha.size
 have ZB := hb.size
 have hd : decide (rcmp p r < 0) = decide (p < r) := decide_eq_decide.2 rcmp_lt
 have Fa := zH ha
 have Fb := zH hb
 clear ha hb
 go_enter Tryz.func22, Tryz.ntmps22
 go_upto_region 1 with fail
 have hbx0 : Blk ((w.alloc (.cells ca 27)).alloc (.cells cb 27)) (w.heap.size) 27 ca := Blk.ext (Blk.new_at w _ (by simp) _ _) ((Ext.refl _).alloc _)
 have hbx1 : Blk ((w.alloc (.cells ca 27)).alloc (.cells cb 27)) (w.heap.size + 1) 27 cb := Blk.ext (Blk.new_at (w.alloc (.cells ca 27)) _ (by simp) _ _) (Ext.refl _)
 have hE : Ext w ((w.alloc (.cells ca 27)).alloc (.cells cb 27)) := (((Ext.refl _).alloc _).alloc _)
 generalize ((w.alloc (.cells ca 27)).alloc (.cells cb 27)) = wa at *
 generalize w.heap.size + 1 = bx1 at *
 have E1 : Hid (Ext w wa) := hE
 have Fbx0 := zH hbx0
 have Fbx1 := zH hbx1
 clear hE hbx0 hbx1
 refine wp_region_lit ?_
 refine pL Fbx0.out Tryz.underlying27 (by rw [show (ca : Array Value).size = 4 from ZA]; kernel_rfl) ?_
 try simp only [Act.put, zA, zB, zC]
 refine pL Fbx1.out Tryz.underlying27 (by rw [show (cb : Array Value).size = 4 from ZB]; kernel_rfl) ?_
 try simp only [Act.put, zA, zB, zC]
 refine mv_call (by rfl) (by go_simp) (q03Cmp (Fa.out.ext E1.out) (Fb.out.ext E1.out) hL) ?_
 rintro e w2 ⟨rfl, hx⟩
 have E2 : Hid (Ext wa w2) := hx
 clear hx
 refine ⟨_, rfl, ?_⟩
 try simp only [Act.put, zA, zB, zC]
 refine pV (w' := w2) ?_
 try simp only [Act.put, zA, zB, zC]
 refine pV (w' := w2) ?_
 try simp only [Act.put, zA, zB, zC]
 go_wp2_with fail
 go_ret
 exact ⟨by rw [← hd]; rfl, (tr E1 E2).out⟩
end Go.Proofs.YtmgibncehlpfkaaGreat

namespace Go.Proofs.YtmgibncehlpfkaaGreat.spn
open Go.RowKit
attribute [local go_sem ↓] Go.wp_at_zero Go.wp_at_succ run_max_ii run_min_ii

set_option maxRecDepth 20000 in
set_option maxHeartbeats 4000000 in
theorem swapRange_any {α : Type} (enc : α → List Value) (hk : ∀ x, (enc x).length = 8) (h1 : ∀ x, ∀ v, v ∈ enc x → v.oneCell' = true) (w0 w : World) (g cap a b n : Nat) (T : TypeId) (rest : List Value) (xs : List α) (cb : Value) (hst : Sw w0 w g T enc rest xs) (ha : a + n ≤ xs.length) (hb : b + n ≤ xs.length) (hsz : xs.length ≤ 100000) :
  Calls Tryz.prog 120 #[.slice (some ⟨g, 0, none⟩) xs.length cap, .int .i64 a, .int .i64 b, .int .i64 n, cb] w fun e w' => e = .returned (.tuple #[]) ∧ Sw w0 w' g T enc rest (swpN xs a b n) := by
 have HST0 := zH hst
 clear hst
 go_enter Tryz.func120, Tryz.ntmps120
 go_wp2_with fail
 go_loopg [10] n (fun c i wr => ∃ t : Nat, t ≤ n ∧ c = n - t ∧ i = .int .i64 t ∧ Sw w0 wr g T enc rest (swpN xs a b t))
 case atStart => exact ⟨0, Nat.zero_le _, rfl, rfl, HST0.out⟩
 case round =>
  clear HST0
  obtain ⟨t, ht, rfl, rfl, hst⟩ := hrel
  by_cases hlt : t < n
  ·have hlt2 : (t : Int) < (n : Int) := by omega
   obtain ⟨i, hi⟩ : ∃ i, i = a + t := ⟨_, rfl⟩
   obtain ⟨j, hj⟩ : ∃ j, j = b + t := ⟨_, rfl⟩
   have e1 : (a : Int) + (t : Int) = (i : Int) := by omega
   have e2 : (b : Int) + (t : Int) = (j : Int) := by omega
   have HI := zH hi
   have HJ := zH hj
   have hnl : (swpN xs a b t).length = xs.length := swpN_len _ _ _ _
   have HSW := zH (swpN_succ xs a b t)
   rw [← hi, ← hj] at HSW
   have k1_ : i < xs.length := by omega
   have k2_ : j < xs.length := by omega
   clear hi hj
   generalize swpN xs a b t = ys at *
   have wi : IntKind.i64.wrap (i : Int) = (i : Int) := by rw [IntKind.wrap_i64]; omega
   have wj : IntKind.i64.wrap (j : Int) = (j : Int) := by rw [IntKind.wrap_i64]; omega
   have bi : (i : Int) < (xs.length : Int) := by omega
   have bj : (j : Int) < (xs.length : Int) := by omega
   have bi2 : i < xs.length := by omega
   have bj2 : j < xs.length := by omega
   have hN : (xs.length : Int) ≤ 100000 := by omega
   obtain ⟨x, hx⟩ : ∃ x, ys[i]? = some x := ⟨_, List.getElem?_eq_getElem (by omega)⟩
   obtain ⟨y, hy⟩ : ∃ y, ys[j]? = some y := ⟨_, List.getElem?_eq_getElem (by omega)⟩
   have Hx := zH hx
   have Hy := zH hy
   have HLi := zH (show i < ys.length by omega)
   have HLj := zH (show j < ys.length by omega)
   have HE := zH (swp_eq hx hy)
   have HST := zH hst
   clear hx hy hst
   go_upto_region 3 with fail
   refine wp_region_held_drew (S := fun x => Own g wr x) (by kernel_rfl) (Own.refl _ _).drew (fun _ => ?_)
   refine zv 0 (bs 24 1) (Own.refl _ _).drew ?_
   refine zv 1 (bs 24 3) (Own.refl _ _).drew ?_
   refine zv 2 (bs 24 7) (Own.refl _ _).drew ?_
   refine zv 3 (bs 24 15) (Own.refl _ _).drew ?_
   refine zv 4 (bs 24 31) (Own.refl _ _).drew ?_
   refine zv 5 (bs 24 63) (Own.refl _ _).drew ?_
   refine zv 6 (bs 24 127) (Own.refl _ _).drew ?_
   refine zv 7 (bs 24 255) (Own.refl _ _).drew ?_
   refine zv 8 (bs 24 511) (Own.refl _ _).drew ?_
   refine zv 9 (bs 24 1023) (Own.refl _ _).drew ?_
   refine zv 10 (bs 24 2047) (Own.refl _ _).drew ?_
   refine zv 11 (bs 24 4095) (Own.refl _ _).drew ?_
   refine zv 12 (bs 24 8191) (Own.refl _ _).drew ?_
   refine zv 14 (bs 24 24575) (Own.refl _ _).drew ?_
   refine zv 15 (bs 24 57343) (Own.refl _ _).drew ?_
   refine zv 16 (bs 24 122879) (Own.refl _ _).drew ?_
   refine zv 17 (bs 24 253951) (Own.refl _ _).drew ?_
   refine zv 18 (bs 24 516095) (Own.refl _ _).drew ?_
   refine md_loads2 (i := 13) (j := 19) (li := (bs 24 524287)) (lj := (bs 24 1040383)) (listed' := (bs 24 1048575)) (by rfl) (by rfl) (by kernel_rfl) (by kernel_rfl) (by kernel_rfl) (by kernel_rfl) (by kernel_rfl) (by kernel_rfl) (by kernel_rfl) 39 _ _ (by rfl) (by rfl) (by rfl) (by rfl) g (j * 8) (i * 8) (enc y) (enc x) _ Tryz.underlying39 (by rfl) (by rfl) (by rfl) (by rfl) (by rfl) (HST.out.ext (Ext.refl _).drew |>.read Hy.out hk) (HST.out.ext (Ext.refl _).drew |>.read Hx.out hk) (by rw [hk]; kernel_rfl) (by rw [hk]; kernel_rfl) (Own.refl _ _).drew (by rfl) ?_
   try simp only [Act.put, zA, zB, zC]
   refine zv 20 (bs 24 2097151) (Own.refl _ _).drew ?_
   have s1_ := (HST.out.ext (Ext.refl _).drew).put (i := i) HLi.out hk y
   have s2_ := s1_.put (i := j) (by rw [List.length_set]; exact HLj.out) hk x
   refine md_rstore (i := 21) (listed' := (bs 24 4194303)) (by rfl) (by kernel_rfl) (by rfl) 39 _ _ (by rfl) g (i * 8) (enc y) (by rfl) (by rfl) (by rw [hk]; exact (HST.out.ext (Ext.refl _).drew).there HLi.out hk) (by rw [hk]; kernel_rfl) (h1 y) (Own.setCells_l _ _ (Own.refl _ _).drew) (by kernel_rfl) ?_
   (try simp only [Act.put])
   refine zv 22 (bs 24 8388607) (Own.setCells_l _ _ (Own.refl _ _).drew) ?_
   refine md_rstore (i := 23) (listed' := (bs 24 16777215)) (by rfl) (by kernel_rfl) (by rfl) 39 _ _ (by rfl) g (j * 8) (enc x) (by rfl) (by rfl) (by rw [hk]; exact s1_.there (by rw [List.length_set]; exact HLj.out) hk) (by rw [hk]; kernel_rfl) (h1 x) (Own.setCells_l _ _ (Own.setCells_l _ _ (Own.refl _ _).drew)) (by kernel_rfl) ?_
   (try simp only [Act.put])
   refine wpAnyH_done (by kernel_rfl) ?_ _
   have HS2 := zH s2_
   clear s1_ s2_
   generalize (World.setCells _ g (j * 8) (enc x)) = w2 at *
   go_wp2_with fail
   go_roundg (n - (t + 1))
   case measure => omega
   case rel => exact ⟨t + 1, hlt, rfl, by go_num, by rw [HSW.out, HE.out]; exact HS2.out⟩
  obtain rfl : t = n := by omega
  have HST := zH hst
  have hge : ¬ (t : Int) < (t : Int) := by omega
  clear hst
  go_wp2_with fail
  go_end0
  exact ⟨rfl, HST.out⟩

set_option maxRecDepth 20000 in
set_option maxHeartbeats 4000000 in
theorem rotate_any {α : Type} (enc : α → List Value) (hk : ∀ x, (enc x).length = 8) (h1 : ∀ x, ∀ v, v ∈ enc x → v.oneCell' = true) (w0 w : World) (g cap a m b N : Nat) (T : TypeId) (rest : List Value) (P A B S : List α) (cb : Value) (hst : Sw w0 w g T enc rest (P ++ (A ++ (B ++ S)))) (ha : P.length = a) (hm : a + A.length = m) (hb : m + B.length = b) (hA : A ≠ []) (hB : B ≠ []) (hN : (P ++ (A ++ (B ++ S))).length = N) (hsz : N ≤ 100000) :
  Calls Tryz.prog 102 #[.slice (some ⟨g, 0, none⟩) N cap, .int .i64 a, .int .i64 m, .int .i64 b, cb] w fun e w' => e = .returned (.tuple #[]) ∧ Sw w0 w' g T enc rest (P ++ (B ++ (A ++ S))) := by
 have hlen : P.length + (A.length + (B.length + S.length)) = N := by rw [← hN]; simp
 have HST := zH hst
 have HAB := zH (And.intro hA hB)
 have HN := zH hN
 have HLN := zH hlen
 have HPA := zH (show P.length + A.length = m by omega)
 have e1 : (m : Int) - (a : Int) = (A.length : Int) := by omega
 have e2 : (b : Int) - (m : Int) = (B.length : Int) := by omega
 have b1 : m ≤ 100000 := by omega
 have b2 : b ≤ 100000 := by omega
 have b3 : A.length ≤ 100000 := by omega
 have b4 : B.length ≤ 100000 := by omega
 have w1_ : IntKind.i64.wrap (A.length : Int) = (A.length : Int) := by rw [IntKind.wrap_i64]; omega
 have w2_ : IntKind.i64.wrap (B.length : Int) = (B.length : Int) := by rw [IntKind.wrap_i64]; omega
 clear hst ha hm hb hA hB hN hlen
 go_enter Tryz.func102, Tryz.ntmps102
 go_wp2_with fail
 go_loopg [10, 11] (A.length + B.length) (fun c u v wr => ∃ (P' A' B' S' : List α), c = A'.length + B'.length ∧ u = .int .i64 A'.length ∧ v = .int .i64 B'.length ∧ A' ≠ [] ∧ B' ≠ [] ∧ P'.length + A'.length = m ∧ (P' ++ (A' ++ (B' ++ S'))).length = N ∧ P' ++ (B' ++ (A' ++ S')) = P ++ (B ++ (A ++ S)) ∧ Sw w0 wr g T enc rest (P' ++ (A' ++ (B' ++ S'))))
 case atStart => exact ⟨P, A, B, S, rfl, rfl, rfl, HAB.out.1, HAB.out.2, HPA.out, HN.out, rfl, HST.out⟩
 case round =>
  clear HST HAB HN HLN HPA e1 e2 b3 b4 w1_ w2_
  obtain ⟨P', A', B', S', rfl, rfl, rfl, hA, hB, hPm, hN, hT, hst⟩ := hrel
  have hlen : P'.length + (A'.length + (B'.length + S'.length)) = N := by rw [← hN]; simp
  have hA0 : 0 < A'.length := by cases A' with | nil => exact absurd rfl hA | cons _ _ => simp
  have hB0 : 0 < B'.length := by cases B' with | nil => exact absurd rfl hB | cons _ _ => simp
  have HT := zH hT
  have HST := zH hst
  have HN := zH hN
  clear hT hst hA hB hN
  obtain ⟨i, hi⟩ : ∃ i, A'.length = i := ⟨_, rfl⟩
  obtain ⟨j, hj⟩ : ∃ j, B'.length = j := ⟨_, rfl⟩
  rw [hi] at hPm hlen hA0 ⊢
  rw [hj] at hlen hB0 ⊢
  have HI := zH hi
  have HJ := zH hj
  clear hi hj
  obtain ⟨p, hp⟩ : ∃ p, P'.length = p := ⟨_, rfl⟩
  rw [hp] at hPm hlen
  have HP := zH hp
  clear hp
  have e1 : (m : Int) - (i : Int) = (p : Int) := by omega
  have b3 : i ≤ 100000 := by omega
  have b4 : j ≤ 100000 := by omega
  have b5 : p ≤ 100000 := by omega
  have w1_ : IntKind.i64.wrap (i : Int) = (i : Int) := by rw [IntKind.wrap_i64]; omega
  have w2_ : IntKind.i64.wrap (j : Int) = (j : Int) := by rw [IntKind.wrap_i64]; omega
  have w3_ : IntKind.i64.wrap (p : Int) = (p : Int) := by rw [IntKind.wrap_i64]; omega
  have HLN := zH hlen
  have HPM := zH hPm
  clear hlen hPm
  rcases Nat.lt_trichotomy i j with hij | hij | hij
  ·-- i < j
   obtain ⟨d, hd⟩ : ∃ d, d + i = j := ⟨j - i, by omega⟩
   have e2 : (j : Int) - (i : Int) = (d : Int) := by omega
   obtain ⟨q, hq⟩ : ∃ q, q = m + d := ⟨_, rfl⟩
   have e3 : (m : Int) + (j : Int) - (i : Int) = (q : Int) := by omega
   have n1 : ¬ (i : Int) = (j : Int) := by omega
   have n2 : ((i : Int) != (j : Int)) = true := by simp; omega
   have n3 : ¬ (j : Int) < (i : Int) := by omega
   have w4_ : IntKind.i64.wrap (d : Int) = (d : Int) := by rw [IntKind.wrap_i64]; omega
   have w5_ : IntKind.i64.wrap (q : Int) = (q : Int) := by rw [IntKind.wrap_i64]; have := HLN.out; have := HPM.out; omega
   have w6_ : IntKind.i64.wrap ((m : Int) + (j : Int)) = (m : Int) + (j : Int) := by rw [IntKind.wrap_i64]; omega
   have hBs : B' = B'.take d ++ B'.drop d := (List.take_append_drop d B').symm
   have l1 : (B'.take d).length = d := by rw [List.length_take]; have := HJ.out; omega
   have l2 : (B'.drop d).length = i := by rw [List.length_drop]; have := HJ.out; omega
   have HC := zH (swapRange_any enc hk h1 w0 wr g cap p q i T rest (P' ++ (A' ++ (B' ++ S'))) cb HST.out (by rw [HN.out]; have := HLN.out; omega) (by rw [HN.out]; have := HLN.out; have := HPM.out; omega) (by rw [HN.out]; exact hsz))
   rw [HN.out] at HC
   have hcut : swpN (P' ++ (A' ++ (B' ++ S'))) p q i = P' ++ (B'.drop d ++ (B'.take d ++ (A' ++ S'))) := by
    have h := swpN_cut P' A' (B'.take d) (B'.drop d) S' i HI.out l2
    rw [l1, HP.out, show p + i + d = q by have := HPM.out; omega, ← List.append_assoc (B'.take d) (B'.drop d) S', ← hBs] at h
    exact h
   rw [hcut] at HC
   have hTT : P' ++ (B'.take d ++ (B'.drop d ++ (A' ++ S'))) = P ++ (B ++ (A ++ S)) := by rw [← List.append_assoc (B'.take d), ← hBs]; exact HT.out
   have HTT := zH hTT
   have HD := zH (And.intro hd (And.intro l1 l2))
   clear hcut hTT hBs l1 l2 hd hq hij
   go_wp2_with (go_at_call 120; refine HC.out.mono ?_; rintro e w2 ⟨rfl, hs2⟩)
   go_roundg (i + d)
   case measure => have := HD.out.1; have := HI.out; have := HJ.out; omega
   case rel => exact ⟨P', B'.drop d, B'.take d, A' ++ S', by rw [HD.out.2.1, HD.out.2.2], by rw [HD.out.2.2], by rw [HD.out.2.1], by intro h; have := HD.out.2.2; rw [h] at this; simp at this; omega, by intro h; have h2 := HD.out.2.1; rw [h] at h2; simp at h2; omega, by rw [HP.out, HD.out.2.2]; exact HPM.out, by have := HLN.out; have := HD.out; simp [HP.out, HI.out, HD.out.2.1, HD.out.2.2] at *; omega, HTT.out, hs2⟩
  ·-- i = j
   subst hij
   have n2 : ((i : Int) != (i : Int)) = false := by simp
   have HC := zH (swapRange_any enc hk h1 w0 wr g cap p m i T rest (P' ++ (A' ++ (B' ++ S'))) cb HST.out (by rw [HN.out]; have := HLN.out; omega) (by rw [HN.out]; have := HLN.out; have := HPM.out; omega) (by rw [HN.out]; exact hsz))
   rw [HN.out] at HC
   have hcut : swpN (P' ++ (A' ++ (B' ++ S'))) p m i = P ++ (B ++ (A ++ S)) := by
    have h := swpN_cut P' A' [] B' S' i HI.out HJ.out
    rw [HP.out, List.length_nil, Nat.add_zero, HPM.out] at h
    exact h.trans HT.out
   rw [hcut] at HC
   clear hcut
   go_wp2_with (go_at_call 120; refine HC.out.mono ?_; rintro e w2 ⟨rfl, hs2⟩)
   go_end0
   exact ⟨rfl, hs2⟩
  -- i > j
  obtain ⟨d, hd⟩ : ∃ d, d + j = i := ⟨i - j, by omega⟩
  have e2 : (i : Int) - (j : Int) = (d : Int) := by omega
  have n2 : ((i : Int) != (j : Int)) = true := by simp; omega
  have n3 : (j : Int) < (i : Int) := by omega
  have w4_ : IntKind.i64.wrap (d : Int) = (d : Int) := by rw [IntKind.wrap_i64]; omega
  have hAs : A' = A'.take j ++ A'.drop j := (List.take_append_drop j A').symm
  have l1 : (A'.take j).length = j := by rw [List.length_take]; have := HI.out; omega
  have l2 : (A'.drop j).length = d := by rw [List.length_drop]; have := HI.out; omega
  have HC := zH (swapRange_any enc hk h1 w0 wr g cap p m j T rest (P' ++ (A' ++ (B' ++ S'))) cb HST.out (by rw [HN.out]; have := HLN.out; omega) (by rw [HN.out]; have := HLN.out; have := HPM.out; omega) (by rw [HN.out]; exact hsz))
  rw [HN.out] at HC
  have hcut : swpN (P' ++ (A' ++ (B' ++ S'))) p m j = (P' ++ B') ++ (A'.drop j ++ (A'.take j ++ S')) := by
   have h := swpN_cut P' (A'.take j) (A'.drop j) B' S' j l1 HJ.out
   rw [l2, HP.out, show p + j + d = m by have := HPM.out; omega, ← List.append_assoc (A'.take j), ← hAs] at h
   rw [h]; simp only [List.append_assoc]
  rw [hcut] at HC
  have hTT : (P' ++ B') ++ (A'.take j ++ (A'.drop j ++ S')) = P ++ (B ++ (A ++ S)) := by rw [← List.append_assoc (A'.take j), ← hAs, List.append_assoc]; exact HT.out
  have HTT := zH hTT
  have HD := zH (And.intro hd (And.intro l1 l2))
  clear hcut hTT hAs l1 l2 hd hij
  go_wp2_with (go_at_call 120; refine HC.out.mono ?_; rintro e w2 ⟨rfl, hs2⟩)
  go_roundg (d + j)
  case measure => have := HD.out.1; have := HI.out; have := HJ.out; omega
  case rel => exact ⟨P' ++ B', A'.drop j, A'.take j, S', by rw [HD.out.2.1, HD.out.2.2], by rw [HD.out.2.2], by rw [HD.out.2.1], by intro h; have h2 := HD.out.2.2; rw [h] at h2; simp at h2; omega, by intro h; have h2 := HD.out.2.1; rw [h] at h2; simp at h2; omega, by rw [List.length_append, HP.out, HJ.out, HD.out.2.2]; have := HPM.out; have := HD.out.1; omega, by have := HLN.out; have := HD.out; simp [HP.out, HJ.out, HD.out.2.1, HD.out.2.2] at *; omega, HTT.out, hs2⟩

set_option maxRecDepth 20000 in
set_option maxHeartbeats 4000000 in
theorem insertion_any {α : Type} (enc : α → List Value) (hk : ∀ x, (enc x).length = 8) (h1 : ∀ x, ∀ v, v ∈ enc x → v.oneCell' = true) (lt : α → α → Bool) (W : Stb.Wk lt) (w0 w : World) (g cap a b N : Nat) (T : TypeId) (rest : List Value) (P X S : List α) (hc : (∀ wr, Own g w0 wr → ∀ x y : α, Calls Tryz.prog 26 #[.agg (enc x).toArray, .agg (enc y).toArray] wr fun e w' => ∃ z : Int, e = .returned (.int .i64 z) ∧ (z < 0 ↔ lt x y = true) ∧ Ext wr w')) (hst : Sw w0 w g T enc rest (P ++ (X ++ S))) (ha : P.length = a) (hb : a + X.length = b) (hN : (P ++ (X ++ S)).length = N) (hsz : N ≤ 100000) :
  Calls Tryz.prog 77 #[.slice (some ⟨g, 0, none⟩) N cap, .int .i64 a, .int .i64 b, .func (.func 26) #[] #[]] w fun e w' => e = .returned (.tuple #[]) ∧ Sw w0 w' g T enc rest (P ++ (Stb.stab lt X ++ S)) := by
 have hlen : P.length + (X.length + S.length) = N := by rw [← hN]; simp
 have HC := zH hc
 have HST0 := zH (show Sw w0 w g T enc rest (P ++ (Stb.stab lt (X.take 1) ++ (X.drop 1 ++ S))) by rw [Stb.stab_take1, ← List.append_assoc (X.take 1), List.take_append_drop]; exact hst)
 have b1 : a ≤ 100000 := by omega
 have b2 : b ≤ 100000 := by omega
 have HPA := zH ha
 have HLN := zH hlen
 have HB := zH hb
 clear hst hc ha hb hN hlen
 go_enter Tryz.func77, Tryz.ntmps77
 go_wp2_with fail
 go_loopg [8] (b + 1 - a) (fun c v wr => ∃ t i : Nat, 1 ≤ t ∧ (t ≤ X.length ∨ t = 1) ∧ i = a + t ∧ c = b + 1 - i + 1 ∧ v = .int .i64 i ∧ Sw w0 wr g T enc rest (P ++ (Stb.stab lt (X.take t) ++ (X.drop t ++ S))))
 case atStart => exact ⟨1, a + 1, Nat.le_refl _, Or.inr rfl, rfl, by have := HB.out; omega, by go_num, HST0.out⟩
 case round =>
  clear HST0
  obtain ⟨t, i, ht1, ht2, hi, rfl, rfl, hst⟩ := hrel
  have hbb := HB.out
  have hib : i ≤ 100001 := by have := HLN.out; have := HPA.out; omega
  by_cases hlt : i < b
  ·have hlt2 : (i : Int) < (b : Int) := by omega
   have htl : t < X.length := by omega
   obtain ⟨y, hy⟩ : ∃ y, X[t] = y := ⟨_, rfl⟩
   have hdr : X.drop t = y :: X.drop (t + 1) := by rw [← hy]; exact List.drop_eq_getElem_cons htl
   have htk : X.take (t + 1) = X.take t ++ [y] := by rw [List.take_succ_eq_append_getElem htl, hy]
   have HSN := zH (show Stb.stab lt (X.take (t + 1)) = Stb.ins lt (Stb.stab lt (X.take t)) y by rw [htk, Stb.stab_snoc])
   have HSRT := zH (Stb.stab_srt W (X.take t))
   have hLl : (Stb.stab lt (X.take t)).length = t := by rw [Stb.stab_len, List.length_take]; omega
   rw [hdr] at hst
   generalize Stb.stab lt (X.take t) = L at *
   have HLL := zH hLl
   have HTL := zH htl
   have HI := zH hi
   have HST1 := zH (show Sw w0 wr g T enc rest (P ++ (L.take t ++ y :: (L.drop t ++ (X.drop (t + 1) ++ S)))) by rw [List.take_of_length_le (by omega), List.drop_of_length_le (by omega)]; exact hst)
   clear hst hdr htk hy hLl hi ht2 hbb
   go_wp2_with fail
   go_loopg [9] t (fun c v wr => ∃ u j : Nat, u ≤ t ∧ c = 0 + u ∧ j = a + u ∧ v = .int .i64 j ∧ (∀ z, z ∈ L.drop u → lt y z = true) ∧ Sw w0 wr g T enc rest (P ++ (L.take u ++ y :: (L.drop u ++ (X.drop (t + 1) ++ S)))))
   case atStart => exact ⟨t, i, Nat.le_refl _, by omega, HI.out, rfl, by intro z hz; rw [List.drop_of_length_le (by have := HLL.out; omega)] at hz; simp at hz, HST1.out⟩
   case round =>
    clear HST1
    obtain ⟨u, j, hu, rfl, hj, rfl, hall, hst⟩ := hrel
    have HALL := zH hall
    have HST := zH hst
    have hjb : j ≤ 100000 := by have := HI.out; omega
    have wj : IntKind.i64.wrap (j : Int) = (j : Int) := by rw [IntKind.wrap_i64]; omega
    have hlu : (P ++ (L.take u ++ y :: (L.drop u ++ (X.drop (t + 1) ++ S)))).length = N := by
     have h1 := HLN.out; have h2 := HTL.out; have h3 := HLL.out
     simp; omega
    have HJ := zH hj
    have HU := zH hu
    clear hall hst
    by_cases hu0 : 0 < u
    ·obtain ⟨p, hp⟩ : ∃ p, p + 1 = j := ⟨j - 1, by omega⟩
     obtain ⟨q, hq⟩ : ∃ q, q + 1 = u := ⟨u - 1, by omega⟩
     have hja : (a : Int) < (j : Int) := by omega
     have e1 : (j : Int) - 1 = (p : Int) := by omega
     have wp : IntKind.i64.wrap (p : Int) = (p : Int) := by rw [IntKind.wrap_i64]; omega
     have hPa := HPA.out
     have hql : q < L.length := by have := HLL.out; omega
     have gx : (P ++ (L.take u ++ y :: (L.drop u ++ (X.drop (t + 1) ++ S))))[p]? = some L[q] := by
      have h := get_mid P (L.take u) (y :: (L.drop u ++ (X.drop (t + 1) ++ S))) q (by rw [List.length_take]; omega)
      rw [show P.length + q = p by omega] at h
      rw [h, List.getElem?_take, if_pos (by omega)]
      exact List.getElem?_eq_getElem hql
     have gy : (P ++ (L.take u ++ y :: (L.drop u ++ (X.drop (t + 1) ++ S))))[j]? = some y := by
      rw [List.getElem?_append_right (by omega), List.getElem?_append_right (by rw [List.length_take]; omega), List.length_take, show j - P.length - min u L.length = 0 by have := HLL.out; omega]
      rfl
     have HSTEP := zH (show swp (P ++ (L.take u ++ y :: (L.drop u ++ (X.drop (t + 1) ++ S)))) j p = P ++ (L.take q ++ y :: (L.drop q ++ (X.drop (t + 1) ++ S))) by
      have h := swps_left P L (X.drop (t + 1) ++ S) y q hql
      rw [show P.length + q = p by omega, hp, hq] at h
      exact h)
     have HQX := zH (show ∀ z, z ∈ L.drop q → z = L[q] ∨ z ∈ L.drop u by
      intro z hz
      rw [List.drop_eq_getElem_cons hql, hq] at hz
      simpa using hz)
     have HINS := zH (fun h => Stb.ins_stop W (y := y) HSRT.out HALL.out (by have := HLL.out; omega) (Or.inr ⟨q, hq, hql, h⟩))
     have bj : (j : Int) < (N : Int) := by rw [← hlu]; have := (List.getElem?_eq_some_iff.1 gy).1; omega
     have bp : (p : Int) < (N : Int) := by omega
     have HE := zH (swp_eq gy gx)
     have HLj := zH (List.getElem?_eq_some_iff.1 gy).1
     have HLp := zH (List.getElem?_eq_some_iff.1 gx).1
     have Hx := zH gx
     have Hy := zH gy
     generalize L[q] = x at *
     generalize hrow : P ++ (L.take u ++ y :: (L.drop u ++ (X.drop (t + 1) ++ S))) = row at *
     have HQ := zH (And.intro hq hp)
     have HROW := zH hrow
     clear gx gy hql hu hq hp hj hPa hrow
     go_upto_region 4 with fail
     refine wp_region_held_drew (S := fun x => Ext wr x) (by kernel_rfl) (Ext.refl _).drew (fun _ => ?_)
     refine zv 0 (bs 17 1) (Ext.refl _).drew ?_
     refine zv 1 (bs 17 3) (Ext.refl _).drew ?_
     refine zv 2 (bs 17 7) (Ext.refl _).drew ?_
     refine zv 3 (bs 17 15) (Ext.refl _).drew ?_
     refine zv 4 (bs 17 31) (Ext.refl _).drew ?_
     refine zv 5 (bs 17 63) (Ext.refl _).drew ?_
     refine zv 6 (bs 17 127) (Ext.refl _).drew ?_
     refine zv 7 (bs 17 255) (Ext.refl _).drew ?_
     refine md_range (i := 8) (listed' := (bs 17 511)) (by rfl) (by kernel_rfl) (by kernel_rfl) (by kernel_rfl) _ _ (by rfl) g (j * 8) (enc y) _ (by intro _ _ _ h; exact h) (by rfl) (by rfl) (fun w1 hw1 => (HST.out.ext hw1).read Hy.out hk) Tryz.underlying39 (by rfl) (by rw [hk]; kernel_rfl) (Ext.refl _).drew (by kernel_rfl) ?_
     try simp only [Act.put, zA, zB, zC]
     refine zv 9 (bs 17 1023) (Ext.refl _).drew ?_
     refine zv 10 (bs 17 2047) (Ext.refl _).drew ?_
     refine zv 11 (bs 17 4095) (Ext.refl _).drew ?_
     refine zv 12 (bs 17 8191) (Ext.refl _).drew ?_
     refine md_range (i := 13) (listed' := (bs 17 16383)) (by rfl) (by kernel_rfl) (by kernel_rfl) (by kernel_rfl) _ _ (by rfl) g (p * 8) (enc x) _ (by intro _ _ _ h; exact h) (by rfl) (by rfl) (fun w1 hw1 => (HST.out.ext hw1).read Hx.out hk) Tryz.underlying39 (by rfl) (by rw [hk]; kernel_rfl) (Ext.refl _).drew (by kernel_rfl) ?_
     try simp only [Act.put, zA, zB, zC]
     refine mC 14 (bs 17 32767) (HC.out _ ((HST.out.ext (Ext.refl _).drew).own) y x) ?_
     rintro e w2 ⟨z, rfl, hz, hx2⟩
     have HX2 := zH (show Ext wr w2 from (Ext.refl _).drew.trans hx2)
     clear hx2
     refine ⟨_, rfl, HX2.out, ?_⟩
     try simp only [Act.put, zA, zB, zC]
     by_cases hlt : lt y x = true
     ·have HLT := zH hlt
      have hz2 : z < 0 := hz.2 hlt
      have hz3 : decide (z < 0) = true := by simpa using hz2
      clear hz
      refine zv 15 (bs 17 65535) HX2.out ?_
      refine zv 16 (bs 17 131071) HX2.out ?_
      refine wpAnyH_done (by kernel_rfl) ?_ _
      clear hlt hz2 hz3
      have HST := zH (HST.out.ext HX2.out)
      clear HX2
      have hN2 : row.length = N := hlu
      generalize w2 = wr at *
      go_upto_region 6 with fail
      refine wp_region_held_drew (S := fun x => Own g wr x) (by kernel_rfl) (Own.refl _ _).drew (fun _ => ?_)
      refine zv 0 (bs 18 1) (Own.refl _ _).drew ?_
      refine zv 1 (bs 18 3) (Own.refl _ _).drew ?_
      refine zv 2 (bs 18 7) (Own.refl _ _).drew ?_
      refine zv 3 (bs 18 15) (Own.refl _ _).drew ?_
      refine zv 4 (bs 18 31) (Own.refl _ _).drew ?_
      refine zv 5 (bs 18 63) (Own.refl _ _).drew ?_
      refine zv 6 (bs 18 127) (Own.refl _ _).drew ?_
      refine zv 7 (bs 18 255) (Own.refl _ _).drew ?_
      refine zv 8 (bs 18 511) (Own.refl _ _).drew ?_
      refine zv 10 (bs 18 1535) (Own.refl _ _).drew ?_
      refine zv 11 (bs 18 3583) (Own.refl _ _).drew ?_
      refine zv 12 (bs 18 7679) (Own.refl _ _).drew ?_
      refine md_loads2 (i := 9) (j := 13) (li := (bs 18 8191)) (lj := (bs 18 15871)) (listed' := (bs 18 16383)) (by rfl) (by rfl) (by kernel_rfl) (by kernel_rfl) (by kernel_rfl) (by kernel_rfl) (by kernel_rfl) (by kernel_rfl) (by kernel_rfl) 39 _ _ (by rfl) (by rfl) (by rfl) (by rfl) g (p * 8) (j * 8) (enc x) (enc y) _ Tryz.underlying39 (by rfl) (by rfl) (by rfl) (by rfl) (by rfl) (HST.out.ext (Ext.refl _).drew |>.read Hx.out hk) (HST.out.ext (Ext.refl _).drew |>.read Hy.out hk) (by rw [hk]; kernel_rfl) (by rw [hk]; kernel_rfl) (Own.refl _ _).drew (by rfl) ?_
      try simp only [Act.put, zA, zB, zC]
      refine zv 14 (bs 18 32767) (Own.refl _ _).drew ?_
      have s1_ := (HST.out.ext (Ext.refl _).drew).put (i := j) HLj.out hk x
      have s2_ := s1_.put (i := p) (by rw [List.length_set]; exact HLp.out) hk y
      refine md_rstore (i := 15) (listed' := (bs 18 65535)) (by rfl) (by kernel_rfl) (by rfl) 39 _ _ (by rfl) g (j * 8) (enc x) (by rfl) (by rfl) (by rw [hk]; exact (HST.out.ext (Ext.refl _).drew).there HLj.out hk) (by rw [hk]; kernel_rfl) (h1 x) (Own.setCells_l _ _ (Own.refl _ _).drew) (by kernel_rfl) ?_
      (try simp only [Act.put])
      refine zv 16 (bs 18 131071) (Own.setCells_l _ _ (Own.refl _ _).drew) ?_
      refine md_rstore (i := 17) (listed' := (bs 18 262143)) (by rfl) (by kernel_rfl) (by rfl) 39 _ _ (by rfl) g (p * 8) (enc y) (by rfl) (by rfl) (by rw [hk]; exact s1_.there (by rw [List.length_set]; exact HLp.out) hk) (by rw [hk]; kernel_rfl) (h1 y) (Own.setCells_l _ _ (Own.setCells_l _ _ (Own.refl _ _).drew)) (by kernel_rfl) ?_
      (try simp only [Act.put])
      refine wpAnyH_done (by kernel_rfl) ?_ _
      have HS2 := zH s2_
      clear s1_ s2_
      generalize (World.setCells _ g (p * 8) (enc y)) = w3 at *
      go_wp2_with fail
      go_roundg q
      case measure => have := HQ.out.1; omega
      case rel => exact ⟨q, p, by have := HQ.out; have := HU.out; omega, by omega, by have := HQ.out; have := HJ.out; omega, rfl, fun z hz => (HQX.out z hz).elim (fun h => by rw [h]; exact HLT.out) (HALL.out z), by rw [← HSTEP.out, HE.out]; exact HS2.out⟩
     have HLT := zH (eq_false_of_ne_true hlt)
     have hz2 : ¬ z < 0 := fun h => hlt (hz.1 h)
     have hz3 : decide (z < 0) = false := by simpa using hz2
     clear hz
     refine zv 15 (bs 17 65535) HX2.out ?_
     refine zv 16 (bs 17 131071) HX2.out ?_
     refine wpAnyH_done (by kernel_rfl) ?_ _
     clear hlt hz2 hz3
     have HR := zH (show Sw w0 w2 g T enc rest (P ++ (Stb.stab lt (X.take (t + 1)) ++ (X.drop (t + 1) ++ S))) by rw [HSN.out, HINS.out HLT.out]; have h := HST.out.ext HX2.out; rw [← HROW.out] at h; simpa using h)
     go_wp2_with fail
     go_roundg (b + 1 - (i + 1) + 1)
     case measure => omega
     case rel => exact ⟨t + 1, i + 1, by omega, Or.inl HTL.out, by have := HI.out; omega, by omega, by go_num, HR.out⟩
    obtain rfl : u = 0 := by omega
    have hja : ¬ (a : Int) < (j : Int) := by omega
    have hja2 : decide ((a : Int) < (j : Int)) = false := by simpa using hja
    have HINS := zH (Stb.ins_stop W (y := y) HSRT.out HALL.out (Nat.zero_le _) (Or.inl rfl))
    go_upto_region 4 with fail
    refine wp_region_held_drew (S := fun x => Ext wr x) (by kernel_rfl) (Ext.refl _).drew (fun _ => ?_)
    refine zv 0 (bs 17 1) (Ext.refl _).drew ?_
    refine zv 1 (bs 17 3) (Ext.refl _).drew ?_
    refine zv 2 (bs 17 7) (Ext.refl _).drew ?_
    refine zv 3 (bs 17 15) (Ext.refl _).drew ?_
    refine zs 4 (bs 17 31) (Ext.refl _).drew ?_
    refine zs 5 (bs 17 63) (Ext.refl _).drew ?_
    refine zs 6 (bs 17 127) (Ext.refl _).drew ?_
    refine zs 7 (bs 17 255) (Ext.refl _).drew ?_
    refine zs 8 (bs 17 511) (Ext.refl _).drew ?_
    refine zs 9 (bs 17 1023) (Ext.refl _).drew ?_
    refine zs 10 (bs 17 2047) (Ext.refl _).drew ?_
    refine zs 11 (bs 17 4095) (Ext.refl _).drew ?_
    refine zs 12 (bs 17 8191) (Ext.refl _).drew ?_
    refine zs 13 (bs 17 16383) (Ext.refl _).drew ?_
    refine zs 14 (bs 17 32767) (Ext.refl _).drew ?_
    refine zs 15 (bs 17 65535) (Ext.refl _).drew ?_
    refine zv 16 (bs 17 131071) (Ext.refl _).drew ?_
    refine wpAnyH_done (by kernel_rfl) ?_ _
    have HR := zH (show Sw w0 wr.drew g T enc rest (P ++ (Stb.stab lt (X.take (t + 1)) ++ (X.drop (t + 1) ++ S))) by rw [HSN.out, HINS.out]; have h := HST.out.ext (Ext.refl _).drew; simpa using h)
    go_wp2_with fail
    go_roundg (b + 1 - (i + 1) + 1)
    case measure => omega
    case rel => exact ⟨t + 1, i + 1, by omega, Or.inl HTL.out, by have := HI.out; omega, by omega, by go_num, HR.out⟩
  have HST := zH (show Sw w0 wr g T enc rest (P ++ (Stb.stab lt X ++ S)) by rw [List.take_of_length_le (by omega), List.drop_of_length_le (by omega)] at hst; exact hst)
  have hge : ¬ (i : Int) < (b : Int) := by omega
  clear hst
  go_wp2_with fail
  go_end0
  exact ⟨rfl, HST.out⟩

set_option maxRecDepth 20000 in
set_option maxHeartbeats 4000000 in
theorem symA_any {α : Type} (enc : α → List Value) (hk : ∀ x, (enc x).length = 8) (h1 : ∀ x, ∀ v, v ∈ enc x → v.oneCell' = true) (lt : α → α → Bool) (W : Stb.Wk lt) (w0 w : World) (g cap a m b N : Nat) (T : TypeId) (rest : List Value) (P B S : List α) (x : α) (hc : (∀ wr, Own g w0 wr → ∀ x y : α, Calls Tryz.prog 26 #[.agg (enc x).toArray, .agg (enc y).toArray] wr fun e w' => ∃ z : Int, e = .returned (.int .i64 z) ∧ (z < 0 ↔ lt x y = true) ∧ Ext wr w')) (hst : Sw w0 w g T enc rest (P ++ (x :: (B ++ S)))) (ha : P.length = a) (hm : a + 1 = m) (hb : m + B.length = b) (hB : Stb.Srt lt B) (hN : (P ++ (x :: (B ++ S))).length = N) (hsz : N ≤ 100000) :
  Calls Tryz.prog 78 #[.slice (some ⟨g, 0, none⟩) N cap, .int .i64 a, .int .i64 m, .int .i64 b, .func (.func 26) #[] #[]] w fun e w' => e = .returned (.tuple #[]) ∧ Sw w0 w' g T enc rest (P ++ (Stb.mrg lt [x] B ++ S)) := by
 have hlen : P.length + (1 + (B.length + S.length)) = N := by rw [← hN]; simp; omega
 have e1 : (m : Int) - (a : Int) = 1 := by omega
 have b1 : a ≤ 100000 := by omega
 have b2 : m ≤ 100000 := by omega
 have b3 : b ≤ 100000 := by omega
 have ba : (a : Int) < (N : Int) := by omega
 have wa_ : IntKind.i64.wrap (a : Int) = (a : Int) := by rw [IntKind.wrap_i64]; omega
 have gx0 : (P ++ (x :: (B ++ S)))[a]? = some x := by rw [← ha]; simp
 have gz : ∀ t z, B[t]? = some z → (P ++ (x :: (B ++ S)))[m + t]? = some z := fun t z h => by
  have h2 := get_mid (P ++ [x]) B S t (List.getElem?_eq_some_iff.1 h).1
  rw [show (P ++ [x]).length + t = m + t by simp; omega, h] at h2
  simpa using h2
 have HC := zH hc
 have HST0 := zH hst
 have HGZ := zH gz
 have Hx := zH gx0
 have HF := zH (And.intro ha (And.intro hm (And.intro hb hlen)))
 have HN := zH hN
 have HBS := zH hB
 have hbl : m + B.length = b := hb
 have hsl : b ≤ N := by omega
 clear hst hc ha hm hb hN hlen gz gx0 hB
 go_enter Tryz.func78, Tryz.ntmps78
 go_wp2_with fail
 go_loopg [10, 11] B.length (fun c u v wr => ∃ s e i j : Nat, s ≤ e ∧ e ≤ B.length ∧ c = e - s ∧ i = m + s ∧ j = m + e ∧ u = .int .i64 i ∧ v = .int .i64 j ∧ (s = 0 ∨ ∃ z, B[s - 1]? = some z ∧ lt z x = true) ∧ (B.length ≤ e ∨ ∃ z, B[e]? = some z ∧ lt z x = false) ∧ Sw w0 wr g T enc rest (P ++ (x :: (B ++ S))))
 case atStart => exact ⟨0, B.length, m, b, Nat.zero_le _, Nat.le_refl _, by omega, rfl, by omega, rfl, rfl, Or.inl rfl, Or.inl (Nat.le_refl _), HST0.out⟩
 case round =>
  clear HST0
  obtain ⟨s, e, i, j, hse, heB, rfl, hi, hj, rfl, rfl, h1s, h2e, hst⟩ := hrel
  have HST := zH hst
  have HI := zH (And.intro hi hj)
  have H1 := zH h1s
  have H2 := zH h2e
  have bi : i ≤ 100000 := by omega
  have bj : j ≤ 100000 := by omega
  clear hst h1s h2e
  by_cases hlt0 : s < e
  ·have hij : (i : Int) < (j : Int) := by omega
   obtain ⟨ss, hss⟩ : ∃ ss, ss = i + j := ⟨_, rfl⟩
   obtain ⟨h, hh⟩ : ∃ h, h = ss / 2 := ⟨_, rfl⟩
   have e3 : (i : Int) + (j : Int) = (ss : Int) := by omega
   obtain ⟨c, hcc⟩ : ∃ c, h = m + c := ⟨h - m, by omega⟩
   have hcb : s ≤ c ∧ c < e := by omega
   have wu : IntKind.u64.wrap (ss : Int) = (ss : Int) := by rw [IntKind.wrap_u64]; omega
   have ws : IntKind.i64.wrap (ss : Int) = (ss : Int) := by rw [IntKind.wrap_i64]; omega
   have wh : IntKind.i64.wrap (h : Int) = (h : Int) := by rw [IntKind.wrap_i64]; omega
   have wuh : IntKind.u64.wrap (h : Int) = (h : Int) := by rw [IntKind.wrap_u64]; omega
   have e2 : (ss : Int) / 2 = (h : Int) := by omega
   have bh : (h : Int) < (N : Int) := by omega
   obtain ⟨z0, hz0⟩ : ∃ z, B[c]? = some z := ⟨_, List.getElem?_eq_getElem (by omega)⟩
   have Hz0 := zH (show (P ++ (x :: (B ++ S)))[h]? = some z0 by rw [hcc]; exact HGZ.out c z0 hz0)
   have HZB := zH hz0
   have HH := zH (And.intro hcc hcb)
   clear hz0 hcc hcb hss hh hi hj
   generalize hrow : P ++ (x :: (B ++ S)) = row at *
   have HROW := zH hrow
   clear hrow
   go_upto_region 5 with fail
   refine wp_region_held_drew (S := fun x => Ext wr x) (by kernel_rfl) (Ext.refl _).drew (fun _ => ?_)
   refine zv 0 (bs 11 1) (Ext.refl _).drew ?_
   refine zv 1 (bs 11 3) (Ext.refl _).drew ?_
   refine zv 2 (bs 11 7) (Ext.refl _).drew ?_
   refine zv 3 (bs 11 15) (Ext.refl _).drew ?_
   refine md_range (i := 4) (listed' := (bs 11 31)) (by rfl) (by kernel_rfl) (by kernel_rfl) (by kernel_rfl) _ _ (by rfl) g (h * 8) (enc z0) _ (by intro _ _ _ h; exact h) (by rfl) (by rfl) (fun w1 hw1 => (HST.out.ext hw1).read Hz0.out hk) Tryz.underlying39 (by rfl) (by rw [hk]; kernel_rfl) (Ext.refl _).drew (by kernel_rfl) ?_
   try simp only [Act.put, zA, zB, zC]
   refine zv 5 (bs 11 63) (Ext.refl _).drew ?_
   refine zv 6 (bs 11 127) (Ext.refl _).drew ?_
   refine zv 7 (bs 11 255) (Ext.refl _).drew ?_
   refine md_range (i := 8) (listed' := (bs 11 511)) (by rfl) (by kernel_rfl) (by kernel_rfl) (by kernel_rfl) _ _ (by rfl) g (a * 8) (enc x) _ (by intro _ _ _ h; exact h) (by rfl) (by rfl) (fun w1 hw1 => (HST.out.ext hw1).read Hx.out hk) Tryz.underlying39 (by rfl) (by rw [hk]; kernel_rfl) (Ext.refl _).drew (by kernel_rfl) ?_
   try simp only [Act.put, zA, zB, zC]
   refine mC 9 (bs 11 1023) (HC.out _ ((HST.out.ext (Ext.refl _).drew).own) z0 x) ?_
   rintro e w2 ⟨z, rfl, hz, hx2⟩
   have HX2 := zH (show Ext wr w2 from (Ext.refl _).drew.trans hx2)
   clear hx2
   refine ⟨_, rfl, HX2.out, ?_⟩
   try simp only [Act.put, zA, zB, zC]
   by_cases hlt : lt z0 x = true
   ·have HLT := zH hlt
    have hz2 : z < 0 := hz.2 hlt
    have hz3 : decide (z < 0) = true := by simpa using hz2
    clear hz
    refine zv 10 (bs 11 2047) HX2.out ?_
    refine wpAnyH_done (by kernel_rfl) ?_ _
    clear hlt hz2 hz3
    have HST := zH (HST.out.ext HX2.out)
    go_wp2_with fail
    go_roundg (e - (c + 1))
    case measure => have := HH.out; omega
    case rel => exact ⟨c + 1, e, h + 1, j, by have := HH.out; omega, heB, rfl, by have := HH.out; omega, HI.out.2, by go_num, rfl, Or.inr ⟨z0, HZB.out, HLT.out⟩, H2.out, HST.out⟩
   have HLT := zH (eq_false_of_ne_true hlt)
   have hz2 : ¬ z < 0 := fun h => hlt (hz.1 h)
   have hz3 : decide (z < 0) = false := by simpa using hz2
   clear hz
   refine zv 10 (bs 11 2047) HX2.out ?_
   refine wpAnyH_done (by kernel_rfl) ?_ _
   clear hlt hz2 hz3
   have HST := zH (HST.out.ext HX2.out)
   go_wp2_with fail
   go_roundg (c - s)
   case measure => have := HH.out; omega
   case rel => exact ⟨s, c, i, h, by have := HH.out; omega, by have := HH.out; omega, rfl, HI.out.1, by have := HH.out; omega, rfl, rfl, H1.out, Or.inr ⟨z0, HZB.out, HLT.out⟩, HST.out⟩
  obtain rfl : s = e := by omega
  have hij : ¬ (i : Int) < (j : Int) := by omega
  have HM := zH (Stb.one_left W HBS.out H1.out H2.out)
  obtain ⟨im, him⟩ : ∃ im, im + 1 = i := ⟨i - 1, by have := HF.out; omega⟩
  have e4 : (i : Int) - 1 = (im : Int) := by omega
  have wim : IntKind.i64.wrap (im : Int) = (im : Int) := by rw [IntKind.wrap_i64]; omega
  have HIM := zH him
  clear hi hj him Hx
  go_wp2_with fail
  go_loopg [13] s (fun c v wr => ∃ t k : Nat, t ≤ s ∧ c = s - t ∧ k = a + t ∧ v = .int .i64 k ∧ Sw w0 wr g T enc rest (P ++ (B.take t ++ x :: (B.drop t ++ S))))
  case atStart => exact ⟨0, a, Nat.zero_le _, rfl, rfl, rfl, by simpa using HST.out⟩
  case round =>
   clear HST
   obtain ⟨t, k0, hts, rfl, hk0, rfl, hst⟩ := hrel
   by_cases hlt : t < s
   ·have hF := HF.out
    have hI := HI.out
    have hIM := HIM.out
    have hki : (k0 : Int) < (im : Int) := by omega
    obtain ⟨k1, hk1⟩ : ∃ k1, k1 = k0 + 1 := ⟨_, rfl⟩
    have e5 : (k0 : Int) + 1 = (k1 : Int) := by omega
    have wk : IntKind.i64.wrap (k1 : Int) = (k1 : Int) := by rw [IntKind.wrap_i64]; omega
    have wk0 : IntKind.i64.wrap (k0 : Int) = (k0 : Int) := by rw [IntKind.wrap_i64]; omega
    have bk1 : (k1 : Int) < (N : Int) := by omega
    have bk0 : (k0 : Int) < (N : Int) := by omega
    have htB : t < B.length := by omega
    have hsw := swps_right P B S x t htB
    rw [show P.length + t = k0 by omega, ← hk1] at hsw
    have hrl : (P ++ (B.take t ++ x :: (B.drop t ++ S))).length = N := by simp; omega
    have gx : (P ++ (B.take t ++ x :: (B.drop t ++ S)))[k0]? = some x := by
     rw [List.getElem?_append_right (by omega), List.getElem?_append_right (by rw [List.length_take]; omega), List.length_take, show k0 - P.length - min t B.length = 0 by omega]
     rfl
    obtain ⟨z0, hz0⟩ : ∃ z, (P ++ (B.take t ++ x :: (B.drop t ++ S)))[k1]? = some z := ⟨_, List.getElem?_eq_getElem (by omega)⟩
    have HE := zH ((swp_eq gx hz0).symm.trans hsw)
    have Hx := zH gx
    have Hz0 := zH hz0
    have HLk0 := zH (List.getElem?_eq_some_iff.1 gx).1
    have HLk1 := zH (List.getElem?_eq_some_iff.1 hz0).1
    have HST := zH hst
    generalize P ++ (B.take t ++ x :: (B.drop t ++ S)) = row at *
    have HK := zH (And.intro hk0 hk1)
    clear gx hz0 hsw hst hF hI hIM hk0 hk1
    go_upto_region 11 with fail
    refine wp_region_held_drew (S := fun x => Own g wr x) (by kernel_rfl) (Own.refl _ _).drew (fun _ => ?_)
    refine zv 0 (bs 18 1) (Own.refl _ _).drew ?_
    refine zv 1 (bs 18 3) (Own.refl _ _).drew ?_
    refine zv 2 (bs 18 7) (Own.refl _ _).drew ?_
    refine zv 3 (bs 18 15) (Own.refl _ _).drew ?_
    refine zv 4 (bs 18 31) (Own.refl _ _).drew ?_
    refine zv 5 (bs 18 63) (Own.refl _ _).drew ?_
    refine zv 6 (bs 18 127) (Own.refl _ _).drew ?_
    refine zv 7 (bs 18 255) (Own.refl _ _).drew ?_
    refine zv 8 (bs 18 511) (Own.refl _ _).drew ?_
    refine zv 10 (bs 18 1535) (Own.refl _ _).drew ?_
    refine zv 11 (bs 18 3583) (Own.refl _ _).drew ?_
    refine zv 12 (bs 18 7679) (Own.refl _ _).drew ?_
    refine md_loads2 (i := 9) (j := 13) (li := (bs 18 8191)) (lj := (bs 18 15871)) (listed' := (bs 18 16383)) (by rfl) (by rfl) (by kernel_rfl) (by kernel_rfl) (by kernel_rfl) (by kernel_rfl) (by kernel_rfl) (by kernel_rfl) (by kernel_rfl) 39 _ _ (by rfl) (by rfl) (by rfl) (by rfl) g (k1 * 8) (k0 * 8) (enc z0) (enc x) _ Tryz.underlying39 (by rfl) (by rfl) (by rfl) (by rfl) (by rfl) (HST.out.ext (Ext.refl _).drew |>.read Hz0.out hk) (HST.out.ext (Ext.refl _).drew |>.read Hx.out hk) (by rw [hk]; kernel_rfl) (by rw [hk]; kernel_rfl) (Own.refl _ _).drew (by rfl) ?_
    try simp only [Act.put, zA, zB, zC]
    refine zv 14 (bs 18 32767) (Own.refl _ _).drew ?_
    have s1_ := (HST.out.ext (Ext.refl _).drew).put (i := k0) HLk0.out hk z0
    have s2_ := s1_.put (i := k1) (by rw [List.length_set]; exact HLk1.out) hk x
    refine md_rstore (i := 15) (listed' := (bs 18 65535)) (by rfl) (by kernel_rfl) (by rfl) 39 _ _ (by rfl) g (k0 * 8) (enc z0) (by rfl) (by rfl) (by rw [hk]; exact (HST.out.ext (Ext.refl _).drew).there HLk0.out hk) (by rw [hk]; kernel_rfl) (h1 z0) (Own.setCells_l _ _ (Own.refl _ _).drew) (by kernel_rfl) ?_
    (try simp only [Act.put])
    refine zv 16 (bs 18 131071) (Own.setCells_l _ _ (Own.refl _ _).drew) ?_
    refine md_rstore (i := 17) (listed' := (bs 18 262143)) (by rfl) (by kernel_rfl) (by rfl) 39 _ _ (by rfl) g (k1 * 8) (enc x) (by rfl) (by rfl) (by rw [hk]; exact s1_.there (by rw [List.length_set]; exact HLk1.out) hk) (by rw [hk]; kernel_rfl) (h1 x) (Own.setCells_l _ _ (Own.setCells_l _ _ (Own.refl _ _).drew)) (by kernel_rfl) ?_
    (try simp only [Act.put])
    refine wpAnyH_done (by kernel_rfl) ?_ _
    have HS2 := zH s2_
    clear s1_ s2_
    generalize (World.setCells _ g (k1 * 8) (enc x)) = w3 at *
    go_wp2_with fail
    go_roundg (s - (t + 1))
    case measure => omega
    case rel => exact ⟨t + 1, k1, hlt, rfl, by have := HK.out; omega, rfl, by rw [← HE.out]; exact HS2.out⟩
   obtain rfl : t = s := by omega
   have HR := zH (show Sw w0 wr g T enc rest (P ++ (Stb.mrg lt [x] B ++ S)) by rw [HM.out]; simpa using hst)
   have hki : ¬ (k0 : Int) < (im : Int) := by have := HF.out; have := HI.out; have := HIM.out; omega
   clear hst
   go_wp2_with fail
   refine bodyPost_ret (results_none rfl _ _ _) rfl ?_
   exact ⟨rfl, HR.out⟩

set_option maxRecDepth 20000 in
set_option maxHeartbeats 4000000 in
theorem symB_any {α : Type} (enc : α → List Value) (hk : ∀ x, (enc x).length = 8) (h1 : ∀ x, ∀ v, v ∈ enc x → v.oneCell' = true) (lt : α → α → Bool) (W : Stb.Wk lt) (w0 w : World) (g cap a m b N : Nat) (T : TypeId) (rest : List Value) (P A S : List α) (y : α) (hc : (∀ wr, Own g w0 wr → ∀ x y : α, Calls Tryz.prog 26 #[.agg (enc x).toArray, .agg (enc y).toArray] wr fun e w' => ∃ z : Int, e = .returned (.int .i64 z) ∧ (z < 0 ↔ lt x y = true) ∧ Ext wr w')) (hst : Sw w0 w g T enc rest (P ++ (A ++ (y :: S)))) (ha : P.length = a) (hm : a + A.length = m) (hb : m + 1 = b) (hA1 : A.length ≠ 1) (hA : Stb.Srt lt A) (hN : (P ++ (A ++ (y :: S))).length = N) (hsz : N ≤ 100000) :
  Calls Tryz.prog 78 #[.slice (some ⟨g, 0, none⟩) N cap, .int .i64 a, .int .i64 m, .int .i64 b, .func (.func 26) #[] #[]] w fun e w' => e = .returned (.tuple #[]) ∧ Sw w0 w' g T enc rest (P ++ (Stb.mrg lt A [y] ++ S)) := by
 have hlen : P.length + (A.length + (1 + S.length)) = N := by rw [← hN]; simp; omega
 obtain ⟨d1, hd1⟩ : ∃ d1, a + d1 = m := ⟨A.length, hm⟩
 have e0 : (m : Int) - (a : Int) = (d1 : Int) := by omega
 have e0b : ((d1 : Int) == 1) = false := by simp; omega
 have wd : IntKind.i64.wrap (d1 : Int) = (d1 : Int) := by rw [IntKind.wrap_i64]; omega
 have e1 : (b : Int) - (m : Int) = 1 := by omega
 have b1 : a ≤ 100000 := by omega
 have b2 : m ≤ 100000 := by omega
 have b3 : b ≤ 100000 := by omega
 have ba : (m : Int) < (N : Int) := by omega
 have wa_ : IntKind.i64.wrap (m : Int) = (m : Int) := by rw [IntKind.wrap_i64]; omega
 have gy0 : (P ++ (A ++ (y :: S)))[m]? = some y := by
  rw [List.getElem?_append_right (by omega), List.getElem?_append_right (by omega), show m - P.length - A.length = 0 by omega]
  rfl
 have gz : ∀ t z, A[t]? = some z → (P ++ (A ++ (y :: S)))[a + t]? = some z := fun t z h => by
  have h2 := get_mid P A (y :: S) t (List.getElem?_eq_some_iff.1 h).1
  rw [show P.length + t = a + t by omega, h] at h2
  exact h2
 have HC := zH hc
 have HST0 := zH hst
 have HGZ := zH gz
 have Hy := zH gy0
 have HF := zH (And.intro ha (And.intro hm (And.intro hb hlen)))
 have HN := zH hN
 have HAS := zH hA
 have hbl : a + A.length = m := hm
 have hsl : m < N := by omega
 clear hst hc ha hm hb hN hlen gz gy0 hA hd1
 go_enter Tryz.func78, Tryz.ntmps78
 go_wp2_with fail
 go_loopg [14, 15] A.length (fun c u v wr => ∃ s e i j : Nat, s ≤ e ∧ e ≤ A.length ∧ c = e - s ∧ i = a + s ∧ j = a + e ∧ u = .int .i64 i ∧ v = .int .i64 j ∧ (s = 0 ∨ ∃ z, A[s - 1]? = some z ∧ lt y z = false) ∧ (A.length ≤ e ∨ ∃ z, A[e]? = some z ∧ lt y z = true) ∧ Sw w0 wr g T enc rest (P ++ (A ++ (y :: S))))
 case atStart => exact ⟨0, A.length, a, m, Nat.zero_le _, Nat.le_refl _, by omega, rfl, by omega, rfl, rfl, Or.inl rfl, Or.inl (Nat.le_refl _), HST0.out⟩
 case round =>
  clear HST0
  obtain ⟨s, e, i, j, hse, heB, rfl, hi, hj, rfl, rfl, h1s, h2e, hst⟩ := hrel
  have HST := zH hst
  have HI := zH (And.intro hi hj)
  have H1 := zH h1s
  have H2 := zH h2e
  have bi : i ≤ 100000 := by omega
  have bj : j ≤ 100000 := by omega
  clear hst h1s h2e
  by_cases hlt0 : s < e
  ·have hij : (i : Int) < (j : Int) := by omega
   obtain ⟨ss, hss⟩ : ∃ ss, ss = i + j := ⟨_, rfl⟩
   obtain ⟨h, hh⟩ : ∃ h, h = ss / 2 := ⟨_, rfl⟩
   have e3 : (i : Int) + (j : Int) = (ss : Int) := by omega
   obtain ⟨c, hcc⟩ : ∃ c, h = a + c := ⟨h - a, by omega⟩
   have hcb : s ≤ c ∧ c < e := by omega
   have wu : IntKind.u64.wrap (ss : Int) = (ss : Int) := by rw [IntKind.wrap_u64]; omega
   have ws : IntKind.i64.wrap (ss : Int) = (ss : Int) := by rw [IntKind.wrap_i64]; omega
   have wh : IntKind.i64.wrap (h : Int) = (h : Int) := by rw [IntKind.wrap_i64]; omega
   have wuh : IntKind.u64.wrap (h : Int) = (h : Int) := by rw [IntKind.wrap_u64]; omega
   have e2 : (ss : Int) / 2 = (h : Int) := by omega
   have bh : (h : Int) < (N : Int) := by omega
   obtain ⟨z0, hz0⟩ : ∃ z, A[c]? = some z := ⟨_, List.getElem?_eq_getElem (by omega)⟩
   have Hz0 := zH (show (P ++ (A ++ (y :: S)))[h]? = some z0 by rw [hcc]; exact HGZ.out c z0 hz0)
   have HZB := zH hz0
   have HH := zH (And.intro hcc hcb)
   clear hz0 hcc hcb hss hh hi hj
   generalize hrow : P ++ (A ++ (y :: S)) = row at *
   clear hrow
   go_upto_region 17 with fail
   refine wp_region_held_drew (S := fun x => Ext wr x) (by kernel_rfl) (Ext.refl _).drew (fun _ => ?_)
   refine zv 0 (bs 12 1) (Ext.refl _).drew ?_
   refine zv 1 (bs 12 3) (Ext.refl _).drew ?_
   refine zv 2 (bs 12 7) (Ext.refl _).drew ?_
   refine zv 3 (bs 12 15) (Ext.refl _).drew ?_
   refine md_range (i := 4) (listed' := (bs 12 31)) (by rfl) (by kernel_rfl) (by kernel_rfl) (by kernel_rfl) _ _ (by rfl) g (m * 8) (enc y) _ (by intro _ _ _ h; exact h) (by rfl) (by rfl) (fun w1 hw1 => (HST.out.ext hw1).read Hy.out hk) Tryz.underlying39 (by rfl) (by rw [hk]; kernel_rfl) (Ext.refl _).drew (by kernel_rfl) ?_
   try simp only [Act.put, zA, zB, zC]
   refine zv 5 (bs 12 63) (Ext.refl _).drew ?_
   refine zv 6 (bs 12 127) (Ext.refl _).drew ?_
   refine zv 7 (bs 12 255) (Ext.refl _).drew ?_
   refine md_range (i := 8) (listed' := (bs 12 511)) (by rfl) (by kernel_rfl) (by kernel_rfl) (by kernel_rfl) _ _ (by rfl) g (h * 8) (enc z0) _ (by intro _ _ _ h; exact h) (by rfl) (by rfl) (fun w1 hw1 => (HST.out.ext hw1).read Hz0.out hk) Tryz.underlying39 (by rfl) (by rw [hk]; kernel_rfl) (Ext.refl _).drew (by kernel_rfl) ?_
   try simp only [Act.put, zA, zB, zC]
   refine mC 9 (bs 12 1023) (HC.out _ ((HST.out.ext (Ext.refl _).drew).own) y z0) ?_
   rintro e w2 ⟨z, rfl, hz, hx2⟩
   have HX2 := zH (show Ext wr w2 from (Ext.refl _).drew.trans hx2)
   clear hx2
   refine ⟨_, rfl, HX2.out, ?_⟩
   try simp only [Act.put, zA, zB, zC]
   by_cases hlt : lt y z0 = true
   ·have HLT := zH hlt
    have hz2 : z < 0 := hz.2 hlt
    have hz3 : decide (z < 0) = true := by simpa using hz2
    clear hz
    refine zv 10 (bs 12 2047) HX2.out ?_
    refine zv 11 (bs 12 4095) HX2.out ?_
    refine wpAnyH_done (by kernel_rfl) ?_ _
    clear hlt hz2 hz3
    have HST := zH (HST.out.ext HX2.out)
    go_wp2_with fail
    go_roundg (c - s)
    case measure => have := HH.out; omega
    case rel => exact ⟨s, c, i, h, by have := HH.out; omega, by have := HH.out; omega, rfl, HI.out.1, by have := HH.out; omega, rfl, rfl, H1.out, Or.inr ⟨z0, HZB.out, HLT.out⟩, HST.out⟩
   have HLT := zH (eq_false_of_ne_true hlt)
   have hz2 : ¬ z < 0 := fun h => hlt (hz.1 h)
   have hz3 : decide (z < 0) = false := by simpa using hz2
   clear hz
   refine zv 10 (bs 12 2047) HX2.out ?_
   refine zv 11 (bs 12 4095) HX2.out ?_
   refine wpAnyH_done (by kernel_rfl) ?_ _
   clear hlt hz2 hz3
   have HST := zH (HST.out.ext HX2.out)
   go_wp2_with fail
   go_roundg (e - (c + 1))
   case measure => have := HH.out; omega
   case rel => exact ⟨c + 1, e, h + 1, j, by have := HH.out; omega, heB, rfl, by have := HH.out; omega, HI.out.2, by go_num, rfl, Or.inr ⟨z0, HZB.out, HLT.out⟩, H2.out, HST.out⟩
  obtain rfl : s = e := by omega
  have hij : ¬ (i : Int) < (j : Int) := by omega
  have HM := zH (Stb.one_right W HAS.out H1.out H2.out)
  clear hi hj Hy
  go_wp2_with fail
  go_loopg [17] (A.length - s) (fun c v wr => ∃ t k : Nat, s ≤ t ∧ t ≤ A.length ∧ c = t - s ∧ k = a + t ∧ v = .int .i64 k ∧ Sw w0 wr g T enc rest (P ++ (A.take t ++ y :: (A.drop t ++ S))))
  case atStart => exact ⟨A.length, m, heB, Nat.le_refl _, by omega, by omega, rfl, by simpa using HST.out⟩
  case round =>
   clear HST
   obtain ⟨t, k0, hts, htA, rfl, hk0, rfl, hst⟩ := hrel
   by_cases hlt : s < t
   ·have hF := HF.out
    have hI := HI.out
    have hki : (i : Int) < (k0 : Int) := by omega
    obtain ⟨k1, hk1⟩ : ∃ k1, k1 + 1 = k0 := ⟨k0 - 1, by omega⟩
    have e5 : (k0 : Int) - 1 = (k1 : Int) := by omega
    have wk : IntKind.i64.wrap (k1 : Int) = (k1 : Int) := by rw [IntKind.wrap_i64]; omega
    have wk0 : IntKind.i64.wrap (k0 : Int) = (k0 : Int) := by rw [IntKind.wrap_i64]; omega
    have bk1 : (k1 : Int) < (N : Int) := by omega
    have bk0 : (k0 : Int) < (N : Int) := by omega
    obtain ⟨q, hq⟩ : ∃ q, q + 1 = t := ⟨t - 1, by omega⟩
    have hsw := swps_left P A S y q (by omega)
    rw [show P.length + q = k1 by omega, hk1, hq] at hsw
    have hrl : (P ++ (A.take t ++ y :: (A.drop t ++ S))).length = N := by simp; omega
    have gx : (P ++ (A.take t ++ y :: (A.drop t ++ S)))[k0]? = some y := by
     rw [List.getElem?_append_right (by omega), List.getElem?_append_right (by rw [List.length_take]; omega), List.length_take, show k0 - P.length - min t A.length = 0 by omega]
     rfl
    obtain ⟨z0, hz0⟩ : ∃ z, (P ++ (A.take t ++ y :: (A.drop t ++ S)))[k1]? = some z := ⟨_, List.getElem?_eq_getElem (by omega)⟩
    have HE := zH ((swp_eq gx hz0).symm.trans hsw)
    have Hy := zH gx
    have Hz0 := zH hz0
    have HLk0 := zH (List.getElem?_eq_some_iff.1 gx).1
    have HLk1 := zH (List.getElem?_eq_some_iff.1 hz0).1
    have HST := zH hst
    generalize P ++ (A.take t ++ y :: (A.drop t ++ S)) = row at *
    have HK := zH (And.intro hk0 (And.intro hk1 hq))
    clear gx hz0 hsw hst hF hI hk0 hk1 hq
    go_upto_region 23 with fail
    refine wp_region_held_drew (S := fun x => Own g wr x) (by kernel_rfl) (Own.refl _ _).drew (fun _ => ?_)
    refine zv 0 (bs 18 1) (Own.refl _ _).drew ?_
    refine zv 1 (bs 18 3) (Own.refl _ _).drew ?_
    refine zv 2 (bs 18 7) (Own.refl _ _).drew ?_
    refine zv 3 (bs 18 15) (Own.refl _ _).drew ?_
    refine zv 4 (bs 18 31) (Own.refl _ _).drew ?_
    refine zv 5 (bs 18 63) (Own.refl _ _).drew ?_
    refine zv 6 (bs 18 127) (Own.refl _ _).drew ?_
    refine zv 7 (bs 18 255) (Own.refl _ _).drew ?_
    refine zv 8 (bs 18 511) (Own.refl _ _).drew ?_
    refine zv 10 (bs 18 1535) (Own.refl _ _).drew ?_
    refine zv 11 (bs 18 3583) (Own.refl _ _).drew ?_
    refine zv 12 (bs 18 7679) (Own.refl _ _).drew ?_
    refine md_loads2 (i := 9) (j := 13) (li := (bs 18 8191)) (lj := (bs 18 15871)) (listed' := (bs 18 16383)) (by rfl) (by rfl) (by kernel_rfl) (by kernel_rfl) (by kernel_rfl) (by kernel_rfl) (by kernel_rfl) (by kernel_rfl) (by kernel_rfl) 39 _ _ (by rfl) (by rfl) (by rfl) (by rfl) g (k1 * 8) (k0 * 8) (enc z0) (enc y) _ Tryz.underlying39 (by rfl) (by rfl) (by rfl) (by rfl) (by rfl) (HST.out.ext (Ext.refl _).drew |>.read Hz0.out hk) (HST.out.ext (Ext.refl _).drew |>.read Hy.out hk) (by rw [hk]; kernel_rfl) (by rw [hk]; kernel_rfl) (Own.refl _ _).drew (by rfl) ?_
    try simp only [Act.put, zA, zB, zC]
    refine zv 14 (bs 18 32767) (Own.refl _ _).drew ?_
    have s1_ := (HST.out.ext (Ext.refl _).drew).put (i := k0) HLk0.out hk z0
    have s2_ := s1_.put (i := k1) (by rw [List.length_set]; exact HLk1.out) hk y
    refine md_rstore (i := 15) (listed' := (bs 18 65535)) (by rfl) (by kernel_rfl) (by rfl) 39 _ _ (by rfl) g (k0 * 8) (enc z0) (by rfl) (by rfl) (by rw [hk]; exact (HST.out.ext (Ext.refl _).drew).there HLk0.out hk) (by rw [hk]; kernel_rfl) (h1 z0) (Own.setCells_l _ _ (Own.refl _ _).drew) (by kernel_rfl) ?_
    (try simp only [Act.put])
    refine zv 16 (bs 18 131071) (Own.setCells_l _ _ (Own.refl _ _).drew) ?_
    refine md_rstore (i := 17) (listed' := (bs 18 262143)) (by rfl) (by kernel_rfl) (by rfl) 39 _ _ (by rfl) g (k1 * 8) (enc y) (by rfl) (by rfl) (by rw [hk]; exact s1_.there (by rw [List.length_set]; exact HLk1.out) hk) (by rw [hk]; kernel_rfl) (h1 y) (Own.setCells_l _ _ (Own.setCells_l _ _ (Own.refl _ _).drew)) (by kernel_rfl) ?_
    (try simp only [Act.put])
    refine wpAnyH_done (by kernel_rfl) ?_ _
    have HS2 := zH s2_
    clear s1_ s2_
    generalize (World.setCells _ g (k1 * 8) (enc y)) = w3 at *
    go_wp2_with fail
    go_roundg (q - s)
    case measure => have := HK.out; omega
    case rel => exact ⟨q, k1, by have := HK.out; omega, by have := HK.out; omega, rfl, by have := HK.out; omega, rfl, by rw [← HE.out]; exact HS2.out⟩
   obtain rfl : t = s := by omega
   have HR := zH (show Sw w0 wr g T enc rest (P ++ (Stb.mrg lt A [y] ++ S)) by rw [HM.out]; simpa using hst)
   have hki : ¬ (i : Int) < (k0 : Int) := by have := HI.out; omega
   clear hst
   go_wp2_with fail
   refine bodyPost_ret (results_none rfl _ _ _) rfl ?_
   exact ⟨rfl, HR.out⟩

set_option maxRecDepth 20000 in
set_option maxHeartbeats 4000000 in
theorem symC_any {α : Type} (enc : α → List Value) (hk : ∀ x, (enc x).length = 8) (h1 : ∀ x, ∀ v, v ∈ enc x → v.oneCell' = true) (lt : α → α → Bool) (W : Stb.Wk lt) (w0 w : World) (g cap a m b N : Nat) (T : TypeId) (rest : List Value) (P A B S : List α) (hc : (∀ wr, Own g w0 wr → ∀ x y : α, Calls Tryz.prog 26 #[.agg (enc x).toArray, .agg (enc y).toArray] wr fun e w' => ∃ z : Int, e = .returned (.int .i64 z) ∧ (z < 0 ↔ lt x y = true) ∧ Ext wr w')) (ih : (∀ (P' A' B' S' : List α) (a m b : Nat) (wr : World), A' ≠ [] → B' ≠ [] → A'.length + B'.length < A.length + B.length → Sw w0 wr g T enc rest (P' ++ (A' ++ (B' ++ S'))) → P'.length = a → a + A'.length = m → m + B'.length = b → Stb.Srt lt A' → Stb.Srt lt B' → (P' ++ (A' ++ (B' ++ S'))).length = N → Calls Tryz.prog 78 #[.slice (some ⟨g, 0, none⟩) N cap, .int .i64 a, .int .i64 m, .int .i64 b, .func (.func 26) #[] #[]] wr fun e w' => e = .returned (.tuple #[]) ∧ Sw w0 w' g T enc rest (P' ++ (Stb.mrg lt A' B' ++ S')))) (hst : Sw w0 w g T enc rest (P ++ (A ++ (B ++ S)))) (ha : P.length = a) (hm : a + A.length = m) (hb : m + B.length = b) (hA0 : A ≠ []) (hB0 : B ≠ []) (hA1 : A.length ≠ 1) (hB1 : B.length ≠ 1) (hA : Stb.Srt lt A) (hB : Stb.Srt lt B) (hN : (P ++ (A ++ (B ++ S))).length = N) (hsz : N ≤ 100000) :
  Calls Tryz.prog 78 #[.slice (some ⟨g, 0, none⟩) N cap, .int .i64 a, .int .i64 m, .int .i64 b, .func (.func 26) #[] #[]] w fun e w' => e = .returned (.tuple #[]) ∧ Sw w0 w' g T enc rest (P ++ (Stb.mrg lt A B ++ S)) := by
 have hlen : P.length + (A.length + (B.length + S.length)) = N := by rw [← hN]; simp
 have hAl : 2 ≤ A.length := by have : A.length ≠ 0 := fun h => hA0 (List.eq_nil_of_length_eq_zero h); omega
 have hBl : 2 ≤ B.length := by have : B.length ≠ 0 := fun h => hB0 (List.eq_nil_of_length_eq_zero h); omega
 have e0 : (m : Int) - (a : Int) = (A.length : Int) := by omega
 have e1 : (b : Int) - (m : Int) = (B.length : Int) := by omega
 have e0b : ((A.length : Int) == 1) = false := by simp; omega
 have e1b : ((B.length : Int) == 1) = false := by simp; omega
 have wA : IntKind.i64.wrap (A.length : Int) = (A.length : Int) := by rw [IntKind.wrap_i64]; omega
 have wB : IntKind.i64.wrap (B.length : Int) = (B.length : Int) := by rw [IntKind.wrap_i64]; omega
 have b1 : a ≤ 100000 := by omega
 have b2 : m ≤ 100000 := by omega
 have b3 : b ≤ 100000 := by omega
 obtain ⟨ss, hss⟩ : ∃ ss, ss = a + b := ⟨_, rfl⟩
 obtain ⟨mid, hmid⟩ : ∃ mid, mid = ss / 2 := ⟨_, rfl⟩
 obtain ⟨M, hM⟩ : ∃ M, a + M = mid := ⟨mid - a, by omega⟩
 obtain ⟨n, hn⟩ : ∃ n, n = mid + m := ⟨_, rfl⟩
 obtain ⟨p, hp⟩ : ∃ p, p + 1 = n := ⟨n - 1, by omega⟩
 have e3 : (a : Int) + (b : Int) = (ss : Int) := by omega
 have wu : IntKind.u64.wrap (ss : Int) = (ss : Int) := by rw [IntKind.wrap_u64]; omega
 have ws : IntKind.i64.wrap (ss : Int) = (ss : Int) := by rw [IntKind.wrap_i64]; omega
 have wh : IntKind.i64.wrap (mid : Int) = (mid : Int) := by rw [IntKind.wrap_i64]; omega
 have wuh : IntKind.u64.wrap (mid : Int) = (mid : Int) := by rw [IntKind.wrap_u64]; omega
 have e2 : (ss : Int) / 2 = (mid : Int) := by omega
 have e4 : (mid : Int) + (m : Int) = (n : Int) := by omega
 have wn : IntKind.i64.wrap (n : Int) = (n : Int) := by rw [IntKind.wrap_i64]; omega
 have e5 : (n : Int) - 1 = (p : Int) := by omega
 have wp : IntKind.i64.wrap (p : Int) = (p : Int) := by rw [IntKind.wrap_i64]; omega
 have HC := zH hc
 have HIH := zH ih
 have HST0 := zH hst
 have HF := zH (show SymF P.length A.length B.length S.length a m b N ss mid M n p from ⟨ha, hm, hb, hlen, hAl, hBl, hss, hmid, hM, hn, hp⟩)
 have HN := zH hN
 have HS := zH (And.intro hA hB)
 clear hst hc ih ha hm hb hN hlen hA hB hA0 hB0 hA1 hB1 hAl hBl hss hmid hM hn hp
 go_enter Tryz.func78, Tryz.ntmps78
 go_upto_if 140 with fail
 go_cut [20, 21] (fun u v wx => ∃ lo hi st r0 : Nat, st = a + lo ∧ r0 = a + hi ∧ u = .int .i64 st ∧ v = .int .i64 r0 ∧ lo ≤ hi ∧ hi ≤ A.length ∧ hi ≤ M ∧ M ≤ lo + B.length ∧ (lo = 0 ∨ lo + B.length ≤ M) ∧ (A.length ≤ hi ∨ M ≤ hi) ∧ wx = w)
 case first => as_aux_lemma =>
  by_cases hmm : mid < m
  ·have h2 : (mid : Int) < (m : Int) := by omega
   obtain ⟨st, lo, k0, k9, k⟩ := sym_ar0 hsz HF.out hmm
   have e6 : (n : Int) - (b : Int) = (st : Int) := by omega
   have wst : IntKind.i64.wrap (st : Int) = (st : Int) := by rw [IntKind.wrap_i64]; omega
   have HK := zH k
   clear k k0 hmm
   go_wp2_with fail
   go_meet
   obtain ⟨k1, k2, k3, k4, k5⟩ := HK.out
   exact ⟨lo, M, st, mid, k1, k3, rfl, rfl, k4, k5, Nat.le_refl _, Nat.le_of_eq k2.symm, Or.inr (Nat.le_of_eq k2), Or.inr (Nat.le_refl _), rfl⟩
  have h2 : ¬ (mid : Int) < (m : Int) := by omega
  have HK := zH (sym_ar1 HF.out hmm)
  clear hmm
  go_wp2_with fail
  go_meet
  obtain ⟨k1, k2, k3⟩ := HK.out
  exact ⟨0, A.length, a, m, rfl, k3, rfl, rfl, Nat.zero_le _, Nat.le_refl _, k1, by rw [Nat.zero_add]; exact k2, Or.inl rfl, Or.inl (Nat.le_refl _), rfl⟩
 case rest =>
  obtain ⟨lo, hi, st, r0, hst, hr0, rfl, rfl, g1, g2, g3, g4, g5, g6, rfl⟩ := hcut
  have HG := zH (show SymG A.length B.length a M lo hi st r0 from ⟨hst, hr0, g1, g2, g3, g4⟩)
  have HGO := zH (And.intro g5 g6)
  clear hst hr0 g1 g2 g3 g4 g5 g6
  go_wp2_with fail
  go_loopg [20, 21] (hi - lo) (fun c u v wr => ∃ s e i j : Nat, lo ≤ s ∧ s ≤ e ∧ e ≤ hi ∧ c = e - s ∧ i = a + s ∧ j = a + e ∧ u = .int .i64 i ∧ v = .int .i64 j ∧ (s = lo ∨ ∃ x y, A[s - 1]? = some x ∧ B[M - s]? = some y ∧ lt y x = false) ∧ (e = hi ∨ ∃ x y, A[e]? = some x ∧ B[M - e - 1]? = some y ∧ lt y x = true) ∧ Sw w0 wr g T enc rest (P ++ (A ++ (B ++ S))))
  case atStart => exact ⟨lo, hi, st, r0, Nat.le_refl _, HG.out.2.2.1, Nat.le_refl _, rfl, HG.out.1, HG.out.2.1, rfl, rfl, Or.inl rfl, Or.inl rfl, HST0.out⟩
  case round => as_aux_lemma =>
   clear HST0
   obtain ⟨s, e, i, j, hls, hse, heh, rfl, hi_, hj_, rfl, rfl, h1s, h2e, hst⟩ := hrel
   have HST := zH hst
   have HI := zH (And.intro hi_ (And.intro hj_ (And.intro hls heh)))
   have H1 := zH h1s
   have H2 := zH h2e
   clear hst h1s h2e
   by_cases hlt0 : s < e
   ·obtain ⟨sq, h, c, ph, ⟨k1, k2, k3, k4, k5, k6, k7, k8, k9⟩, hcc, q1, q2, q3, q4⟩ := sym_ar hsz HF.out HG.out hls heh hi_ hj_ hlt0
    have hij : (i : Int) < (j : Int) := by omega
    have f3 : (i : Int) + (j : Int) = (sq : Int) := by omega
    have fu : IntKind.u64.wrap (sq : Int) = (sq : Int) := by rw [IntKind.wrap_u64]; omega
    have fs : IntKind.i64.wrap (sq : Int) = (sq : Int) := by rw [IntKind.wrap_i64]; omega
    have fh : IntKind.i64.wrap (h : Int) = (h : Int) := by rw [IntKind.wrap_i64]; omega
    have fuh : IntKind.u64.wrap (h : Int) = (h : Int) := by rw [IntKind.wrap_u64]; omega
    have f2 : (sq : Int) / 2 = (h : Int) := by omega
    have f4 : (p : Int) - (h : Int) = (ph : Int) := by omega
    have fp : IntKind.i64.wrap (ph : Int) = (ph : Int) := by rw [IntKind.wrap_i64]; omega
    have bh : (h : Int) < (N : Int) := by omega
    have bp : (ph : Int) < (N : Int) := by omega
    have bi : i ≤ 100000 := k8
    obtain ⟨x0, hx0⟩ : ∃ z, A[c]? = some z := ⟨_, List.getElem?_eq_getElem q1⟩
    obtain ⟨y0, hy0⟩ : ∃ z, B[M - c - 1]? = some z := ⟨_, List.getElem?_eq_getElem q2⟩
    have Hx0 := zH (show (P ++ (A ++ (B ++ S)))[h]? = some x0 by
     have q := get_mid P A (B ++ S) c q1
     rw [q3, hx0] at q
     exact q)
    have Hy0 := zH (show (P ++ (A ++ (B ++ S)))[ph]? = some y0 by
     have q := get_mid (P ++ A) B S (M - c - 1) q2
     rw [List.length_append, q4, hy0] at q
     simpa using q)
    have HXA := zH hx0
    have HYB := zH hy0
    have HH := zH hcc
    clear hx0 hy0 hcc hi_ hj_ k1 k2 k3 k4 q1 q2 q3 q4
    generalize hrow : P ++ (A ++ (B ++ S)) = row at *
    clear hrow
    go_upto_region 35 with fail
    refine wp_region_held_drew (S := fun x => Ext wr x) (by kernel_rfl) (Ext.refl _).drew (fun _ => ?_)
    refine zv 0 (bs 14 1) (Ext.refl _).drew ?_
    refine zv 1 (bs 14 3) (Ext.refl _).drew ?_
    refine zv 2 (bs 14 7) (Ext.refl _).drew ?_
    refine zv 3 (bs 14 15) (Ext.refl _).drew ?_
    refine zv 4 (bs 14 31) (Ext.refl _).drew ?_
    refine zv 5 (bs 14 63) (Ext.refl _).drew ?_
    refine md_range (i := 6) (listed' := (bs 14 127)) (by rfl) (by kernel_rfl) (by kernel_rfl) (by kernel_rfl) _ _ (by rfl) g (ph * 8) (enc y0) _ (by intro _ _ _ h; exact h) (by rfl) (by rfl) (fun w1 hw1 => (HST.out.ext hw1).read Hy0.out hk) Tryz.underlying39 (by rfl) (by rw [hk]; kernel_rfl) (Ext.refl _).drew (by kernel_rfl) ?_
    try simp only [Act.put, zA, zB, zC]
    refine zv 7 (bs 14 255) (Ext.refl _).drew ?_
    refine zv 8 (bs 14 511) (Ext.refl _).drew ?_
    refine zv 9 (bs 14 1023) (Ext.refl _).drew ?_
    refine md_range (i := 10) (listed' := (bs 14 2047)) (by rfl) (by kernel_rfl) (by kernel_rfl) (by kernel_rfl) _ _ (by rfl) g (h * 8) (enc x0) _ (by intro _ _ _ h; exact h) (by rfl) (by rfl) (fun w1 hw1 => (HST.out.ext hw1).read Hx0.out hk) Tryz.underlying39 (by rfl) (by rw [hk]; kernel_rfl) (Ext.refl _).drew (by kernel_rfl) ?_
    try simp only [Act.put, zA, zB, zC]
    refine mC 11 (bs 14 4095) (HC.out _ ((HST.out.ext (Ext.refl _).drew).own) y0 x0) ?_
    rintro e w2 ⟨z, rfl, hz, hx2⟩
    have HX2 := zH (show Ext wr w2 from (Ext.refl _).drew.trans hx2)
    clear hx2
    refine ⟨_, rfl, HX2.out, ?_⟩
    try simp only [Act.put, zA, zB, zC]
    by_cases hlt : lt y0 x0 = true
    ·as_aux_lemma =>
     have HLT := zH hlt
     have hz2 : z < 0 := hz.2 hlt
     have hz3 : decide (z < 0) = true := by simpa using hz2
     clear hz
     refine zv 12 (bs 14 8191) HX2.out ?_
     refine zv 13 (bs 14 16383) HX2.out ?_
     refine wpAnyH_done (by kernel_rfl) ?_ _
     clear hlt hz2 hz3
     have HST := zH (HST.out.ext HX2.out)
     go_wp2_with fail
     go_roundg (c - s)
     case measure => have := HH.out; omega
     case rel => exact ⟨s, c, i, h, hls, by have := HH.out; omega, by have := HH.out; omega, rfl, HI.out.1, by have := HH.out; omega, rfl, rfl, H1.out, Or.inr ⟨x0, y0, HXA.out, HYB.out, HLT.out⟩, HST.out⟩
    as_aux_lemma =>
    have HLT := zH (eq_false_of_ne_true hlt)
    have hz2 : ¬ z < 0 := fun h => hlt (hz.1 h)
    have hz3 : decide (z < 0) = false := by simpa using hz2
    clear hz
    refine zv 12 (bs 14 8191) HX2.out ?_
    refine zv 13 (bs 14 16383) HX2.out ?_
    refine wpAnyH_done (by kernel_rfl) ?_ _
    clear hlt hz2 hz3
    have HST := zH (HST.out.ext HX2.out)
    go_wp2_with fail
    go_roundg (e - (c + 1))
    case measure => have := HH.out; omega
    case rel => exact ⟨c + 1, e, h + 1, j, by have := HH.out; omega, by have := HH.out; omega, heh, rfl, by have := HH.out; omega, HI.out.2.1, by go_num, rfl, Or.inr ⟨x0, y0, HXA.out, by rw [show M - (c + 1) = M - c - 1 by omega]; exact HYB.out, HLT.out⟩, H2.out, HST.out⟩
   as_aux_lemma =>
   obtain rfl : s = e := by omega
   have hij : ¬ (i : Int) < (j : Int) := by omega
   obtain ⟨r, en, ⟨k1, k2, k3, k4, k5⟩, klen, kiff, keq, klt1, klt2⟩ := sym_ar2 hsz HF.out HG.out hls heh hi_
   have HM := zH (Stb.sym_split (lt := lt) (s := s) (r := r) W HS.out.1 HS.out.2 (by
    rcases H1.out with h | ⟨x, y, q1, q2, q3⟩
    ·rcases HGO.out.1 with q | q
     ·exact Or.inl (by omega)
     exact Or.inr (Or.inl (by omega))
    ·exact Or.inr (Or.inr ⟨x, y, q1, by rw [show r = M - s by omega]; exact q2, q3⟩)) (by
    rcases H2.out with h | ⟨x, y, q1, q2, q3⟩
    ·rcases HGO.out.2 with q | q
     ·exact Or.inr (Or.inl (by omega))
     exact Or.inl (by omega)
    exact Or.inr (Or.inr ⟨x, y, q1, by rw [show r - 1 = M - s - 1 by omega]; exact q2, q3⟩)))
   have e6 : (n : Int) - (i : Int) = (en : Int) := by omega
   have wen : IntKind.i64.wrap (en : Int) = (en : Int) := by rw [IntKind.wrap_i64]; omega
   have hAs : A.take s ++ A.drop s = A := List.take_append_drop s A
   have hBs : B.take r ++ B.drop r = B := List.take_append_drop r B
   have la1 : (A.take s).length = s := by rw [List.length_take]; exact Nat.min_eq_left k4
   have la2 : (A.drop s).length = A.length - s := List.length_drop
   have lb1 : (B.take r).length = r := by rw [List.length_take]; exact Nat.min_eq_left k3
   have lb2 : (B.drop r).length = B.length - r := List.length_drop
   have HLL := zH (And.intro la1 (And.intro la2 (And.intro lb1 lb2)))
   have HKL := zH klen
   have HKI := zH kiff
   have HKE := zH keq
   have HLT := zH (And.intro klt1 klt2)
   have HST2 := zH (show Sw w0 wr g T enc rest ((P ++ A.take s) ++ (A.drop s ++ (B.take r ++ (B.drop r ++ S)))) by
    have h := HST.out
    rw [← hAs, ← hBs] at h
    simpa only [List.append_assoc] using h)
   have HN2 := zH (show ((P ++ A.take s) ++ (A.drop s ++ (B.take r ++ (B.drop r ++ S)))).length = N by simp only [List.length_append, la1, la2, lb1, lb2]; omega)
   have HSA := zH (And.intro (Stb.srt_take HS.out.1 s) (And.intro (Stb.srt_drop HS.out.1 s) (And.intro (Stb.srt_take HS.out.2 r) (Stb.srt_drop HS.out.2 r))))
   have HE1 := zH (Stb.mrg_take_nil (lt := lt) (A := A) (B := B) (s := s) (r := r))
   have HE2 := zH (Stb.mrg_drop_nil (lt := lt) (A := A) (B := B) (s := s) (r := r))
   clear HST hi_ hj_ hAs hBs la1 la2 lb1 lb2 H1 H2 klen kiff keq klt1 klt2 k1 k2 k3 k4 hls heh hse
   generalize A.take s = A1 at *
   generalize A.drop s = A2 at *
   generalize B.take r = B1 at *
   generalize B.drop r = B2 at *
   go_upto_region 39 with fail
   go_cut [185] (fun u wx => u = .bool (decide (s < A.length ∧ 0 < r)) ∧ wx = wr)
   case first => as_aux_lemma =>
    by_cases c : s < A.length
    ·have c2 : (i : Int) < (m : Int) := Int.ofNat_lt.2 (HKI.out.1.2 c)
     by_cases d : 0 < r
     ·have c3 : (m : Int) < (en : Int) := Int.ofNat_lt.2 (HKI.out.2.1.2 d)
      go_wp2_with fail
      go_meet
      exact ⟨by simp [c, d], rfl⟩
     have c3 : ¬ (m : Int) < (en : Int) := fun h => d (HKI.out.2.1.1 (Int.ofNat_lt.1 h))
     go_wp2_with fail
     go_meet
     exact ⟨by simp [d], rfl⟩
    have c2 : ¬ (i : Int) < (m : Int) := fun h => c (HKI.out.1.1 (Int.ofNat_lt.1 h))
    have c4 : decide ((i : Int) < (m : Int)) = false := decide_eq_false c2
    go_wp2_with fail
    go_meet
    exact ⟨by simp [c], rfl⟩
   case rest =>
    obtain ⟨rfl, rfl⟩ := hcut
    go_upto_if 185 with fail
    go_cut [] (fun wx => Sw w0 wx g T enc rest (P ++ (A1 ++ (B1 ++ (A2 ++ (B2 ++ S))))))
    case first => as_aux_lemma =>
     by_cases c1 : s < A.length ∧ 0 < r
     ·have cb : decide (s < A.length ∧ 0 < r) = true := decide_eq_true c1
      have HR := zH (rotate_any enc hk h1 w0 wc g cap i m en N T rest (P ++ A1) A2 B1 (B2 ++ S) (.func (.func 26) #[] #[]) HST2.out (by rw [List.length_append, HLL.out.1]; exact HKE.out.1) (by rw [HLL.out.2.1]; exact HKE.out.2.1) (by rw [HLL.out.2.2.1]; exact HKE.out.2.2.1) (ne_of_len (by rw [HLL.out.2.1]; omega)) (ne_of_len (by rw [HLL.out.2.2.1]; exact c1.2)) HN2.out hsz)
      generalize decide (s < A.length ∧ 0 < r) = bb at *
      subst cb
      go_wp2_with (go_at_call 102; refine HR.out.mono ?_; rintro e w2 ⟨rfl, hs2⟩)
      go_meet
      simpa only [List.append_assoc] using hs2
     have cb : decide (s < A.length ∧ 0 < r) = false := decide_eq_false c1
     have HE := zH (show (P ++ A1) ++ (A2 ++ (B1 ++ (B2 ++ S))) = P ++ (A1 ++ (B1 ++ (A2 ++ (B2 ++ S)))) by
      by_cases c : s < A.length
      ·have : B1 = [] := List.eq_nil_of_length_eq_zero (by rw [HLL.out.2.2.1]; omega)
       rw [this]; simp
      have : A2 = [] := List.eq_nil_of_length_eq_zero (by rw [HLL.out.2.1]; omega)
      rw [this]; simp)
     generalize decide (s < A.length ∧ 0 < r) = bb at *
     subst cb
     go_wp2_with fail
     go_meet
     rw [← HE.out]; exact HST2.out
    case rest =>
     have HST3 := zH hcut
     clear hcut HST2
     go_upto_region 41 with fail
     go_cut [199] (fun u wx => u = .bool (decide (0 < s ∧ 0 < r)) ∧ wx = wc)
     case first => as_aux_lemma =>
      by_cases c : 0 < s
      ·have c2 : (a : Int) < (i : Int) := Int.ofNat_lt.2 (HKI.out.2.2.1.2 c)
       by_cases d : 0 < r
       ·have c3 : (i : Int) < (mid : Int) := Int.ofNat_lt.2 (HKI.out.2.2.2.1.2 d)
        go_wp2_with fail
        go_meet
        exact ⟨by simp [c, d], rfl⟩
       have c3 : ¬ (i : Int) < (mid : Int) := fun h => d (HKI.out.2.2.2.1.1 (Int.ofNat_lt.1 h))
       go_wp2_with fail
       go_meet
       exact ⟨by simp [d], rfl⟩
      have c2 : ¬ (a : Int) < (i : Int) := fun h => c (HKI.out.2.2.1.1 (Int.ofNat_lt.1 h))
      have c4 : decide ((a : Int) < (i : Int)) = false := decide_eq_false c2
      go_wp2_with fail
      go_meet
      exact ⟨by simp [c], rfl⟩
     case rest =>
      obtain ⟨rfl, rfl⟩ := hcut
      go_upto_if 199 with fail
      go_cut [] (fun wx => Sw w0 wx g T enc rest (P ++ (Stb.mrg lt A1 B1 ++ (A2 ++ (B2 ++ S)))))
      case first => as_aux_lemma =>
       by_cases c1 : 0 < s ∧ 0 < r
       ·have cb : decide (0 < s ∧ 0 < r) = true := decide_eq_true c1
        have HR := zH (HIH.out P A1 B1 (A2 ++ (B2 ++ S)) a i mid wc (ne_of_len (by rw [HLL.out.1]; exact c1.1)) (ne_of_len (by rw [HLL.out.2.2.1]; exact c1.2)) (by rw [HLL.out.1, HLL.out.2.2.1]; exact HLT.out.1) HST3.out HKE.out.2.2.2.2.2.2.2.2 (by rw [HLL.out.1]; exact HKE.out.2.2.2.1) (by rw [HLL.out.2.2.1]; exact HKE.out.2.2.2.2.1) HSA.out.1 HSA.out.2.2.1 (by simp only [List.length_append, HLL.out.1, HLL.out.2.1, HLL.out.2.2.1, HLL.out.2.2.2]; exact HKL.out))
        generalize decide (0 < s ∧ 0 < r) = bb at *
        subst cb
        go_wp2_with (go_at_call 78; refine HR.out.mono ?_; rintro e w2 ⟨rfl, hs2⟩)
        go_meet
        exact hs2
       have cb : decide (0 < s ∧ 0 < r) = false := decide_eq_false c1
       have HE := zH (HE1.out c1)
       generalize decide (0 < s ∧ 0 < r) = bb at *
       subst cb
       go_wp2_with fail
       go_meet
       rw [HE.out]; have h := HST3.out; simpa only [List.append_assoc] using h
      case rest =>
       have HST4 := zH hcut
       clear hcut HST3
       have HLM := zH (Stb.mrg_len (lt := lt) A1 B1)
       have HR0 := zH (show P ++ (Stb.mrg lt A1 B1 ++ (Stb.mrg lt A2 B2 ++ S)) = P ++ (Stb.mrg lt A B ++ S) by rw [HM.out, List.append_assoc])
       go_upto_region 43 with fail
       go_cut [213] (fun u wx => u = .bool (decide (s < A.length ∧ r < B.length)) ∧ wx = wc)
       case first => as_aux_lemma =>
        by_cases c : s < A.length
        ·have c2 : (mid : Int) < (en : Int) := Int.ofNat_lt.2 (HKI.out.2.2.2.2.1.2 c)
         by_cases d : r < B.length
         ·have c3 : (en : Int) < (b : Int) := Int.ofNat_lt.2 (HKI.out.2.2.2.2.2.2 d)
          go_wp2_with fail
          go_meet
          exact ⟨by simp [c, d], rfl⟩
         have c3 : ¬ (en : Int) < (b : Int) := fun h => d (HKI.out.2.2.2.2.2.1 (Int.ofNat_lt.1 h))
         go_wp2_with fail
         go_meet
         exact ⟨by simp [d], rfl⟩
        have c2 : ¬ (mid : Int) < (en : Int) := fun h => c (HKI.out.2.2.2.2.1.1 (Int.ofNat_lt.1 h))
        have c4 : decide ((mid : Int) < (en : Int)) = false := decide_eq_false c2
        go_wp2_with fail
        go_meet
        exact ⟨by simp [c], rfl⟩
       case rest =>
        obtain ⟨rfl, rfl⟩ := hcut
        by_cases c1 : s < A.length ∧ r < B.length
        ·have cb : decide (s < A.length ∧ r < B.length) = true := decide_eq_true c1
         have HR := zH (HIH.out (P ++ Stb.mrg lt A1 B1) A2 B2 S mid en b wc (ne_of_len (by rw [HLL.out.2.1]; omega)) (ne_of_len (by rw [HLL.out.2.2.2]; omega)) (by rw [HLL.out.2.1, HLL.out.2.2.2]; exact HLT.out.2) (by rw [List.append_assoc]; exact HST4.out) (by rw [List.length_append, HLM.out, HLL.out.1, HLL.out.2.2.1]; exact HKE.out.2.2.2.2.2.2.2.1) (by rw [HLL.out.2.1]; exact HKE.out.2.2.2.2.2.1) (by rw [HLL.out.2.2.2]; exact HKE.out.2.2.2.2.2.2.1) HSA.out.2.1 HSA.out.2.2.2 (by have h := HKL.out; simp only [List.length_append, HLM.out, HLL.out.1, HLL.out.2.1, HLL.out.2.2.1, HLL.out.2.2.2]; omega))
         generalize decide (s < A.length ∧ r < B.length) = bb at *
         subst cb
         go_wp2_with (go_at_call 78; refine HR.out.mono ?_; rintro e w2 ⟨rfl, hs2⟩)
         go_end0
         exact ⟨rfl, by rw [← HR0.out, ← List.append_assoc P]; exact hs2⟩
        have cb : decide (s < A.length ∧ r < B.length) = false := decide_eq_false c1
        have HE := zH (HE2.out c1)
        generalize decide (s < A.length ∧ r < B.length) = bb at *
        subst cb
        go_wp2_with fail
        go_end0
        exact ⟨rfl, by rw [← HR0.out, HE.out, List.append_assoc]; exact HST4.out⟩

theorem symMerge_any {α : Type} (enc : α → List Value) (hk : ∀ x, (enc x).length = 8) (h1 : ∀ x, ∀ v, v ∈ enc x → v.oneCell' = true) (lt : α → α → Bool) (W : Stb.Wk lt) (w0 : World) (g cap N : Nat) (T : TypeId) (rest : List Value) (hc : (∀ wr, Own g w0 wr → ∀ x y : α, Calls Tryz.prog 26 #[.agg (enc x).toArray, .agg (enc y).toArray] wr fun e w' => ∃ z : Int, e = .returned (.int .i64 z) ∧ (z < 0 ↔ lt x y = true) ∧ Ext wr w')) (hsz : N ≤ 100000) :
  ∀ (n : Nat) (P A B S : List α) (a m b : Nat) (wr : World), A ≠ [] → B ≠ [] → A.length + B.length ≤ n → Sw w0 wr g T enc rest (P ++ (A ++ (B ++ S))) → P.length = a → a + A.length = m → m + B.length = b → Stb.Srt lt A → Stb.Srt lt B → (P ++ (A ++ (B ++ S))).length = N → Calls Tryz.prog 78 #[.slice (some ⟨g, 0, none⟩) N cap, .int .i64 a, .int .i64 m, .int .i64 b, .func (.func 26) #[] #[]] wr fun e w' => e = .returned (.tuple #[]) ∧ Sw w0 w' g T enc rest (P ++ (Stb.mrg lt A B ++ S)) := by
 intro n
 induction n with
 | zero => intro P A B S a m b wr hA hB hl; exact absurd (List.eq_nil_of_length_eq_zero (by omega)) hA
 | succ n ih =>
  intro P A B S a m b wr hA0 hB0 hl hst ha hm hb hA hB hN
  match A, hA0 with
  | [x], _ => exact symA_any enc hk h1 lt W w0 wr g cap a m b N T rest P B S x hc hst ha hm hb hB hN hsz
  | x :: x2 :: A, hA0 =>
   match B, hB0 with
   | [y], _ => exact symB_any enc hk h1 lt W w0 wr g cap a m b N T rest P (x :: x2 :: A) S y hc hst ha hm hb (by simp) hA hN hsz
   | y :: y2 :: B, hB0 =>
    exact symC_any enc hk h1 lt W w0 wr g cap a m b N T rest P (x :: x2 :: A) (y :: y2 :: B) S hc (fun P' A' B' S' a' m' b' w' q1 q2 q3 q4 q5 q6 q7 q8 q9 q10 => ih P' A' B' S' a' m' b' w' q1 q2 (by omega) q4 q5 q6 q7 q8 q9 q10) hst ha hm hb hA0 hB0 (by simp) (by simp) hA hB hN hsz

set_option maxRecDepth 20000 in
set_option maxHeartbeats 4000000 in
theorem stable_any {α : Type} (enc : α → List Value) (hk : ∀ x, (enc x).length = 8) (h1 : ∀ x, ∀ v, v ∈ enc x → v.oneCell' = true) (lt : α → α → Bool) (W : Stb.Wk lt) (w0 w : World) (g cap N : Nat) (T : TypeId) (rest : List Value) (xs : List α) (hc : (∀ wr, Own g w0 wr → ∀ x y : α, Calls Tryz.prog 26 #[.agg (enc x).toArray, .agg (enc y).toArray] wr fun e w' => ∃ z : Int, e = .returned (.int .i64 z) ∧ (z < 0 ↔ lt x y = true) ∧ Ext wr w')) (hst : Sw w0 w g T enc rest xs) (hN : xs.length = N) (hsz : N ≤ 20000) :
  Calls Tryz.prog 50 #[.slice (some ⟨g, 0, none⟩) N cap, .int .i64 N, .func (.func 26) #[] #[]] w fun e w' => e = .returned (.tuple #[]) ∧ Sw w0 w' g T enc rest (Stb.stab lt xs) := by
 have HC := zH hc
 have HST0 := zH hst
 have HN := zH hN
 clear hst hc hN
 go_enter Tryz.func50, Tryz.ntmps50
 go_wp2_with fail
 go_loopg [7, 8] (N + 20) (fun c u v wr => ∃ (a b : Nat) (row : List α), b = a + 20 ∧ a ≤ N ∧ c = N + 20 - a ∧ u = .int .i64 a ∧ v = .int .i64 b ∧ Stb.Fst lt 20 a xs row ∧ Sw w0 wr g T enc rest row)
 case atStart => exact ⟨0, 20, xs, rfl, Nat.zero_le _, rfl, rfl, rfl, Stb.Fst.start 20 xs, HST0.out⟩
 case round =>
  clear HST0
  obtain ⟨a, b, row, hb, haN, rfl, rfl, rfl, hf, hst⟩ := hrel
  have HST := zH hst
  have HF := zH hf
  clear hst hf
  by_cases hlt : b ≤ N
  ·have hlt2 : (b : Int) ≤ (N : Int) := by omega
   obtain ⟨P, X, S, rfl, hP, hX, hF2⟩ := HF.out.cut (by rw [HN.out]; omega)
   have hlen := HF.out.len
   have HB := zH (insertion_any enc hk h1 lt W w0 wr g cap a b N T rest P X S HC.out HST.out hP (by omega) (by rw [hlen, HN.out]) (by omega))
   have HF2 := zH hF2
   clear hP hX hF2 hlen HST
   obtain ⟨b2, hb2⟩ : ∃ b2, b2 = b + 20 := ⟨_, rfl⟩
   have e1 : (b : Int) + 20 = (b2 : Int) := by omega
   have wb : IntKind.i64.wrap (b2 : Int) = (b2 : Int) := by rw [IntKind.wrap_i64]; omega
   have HB2 := zH (And.intro hb hb2)
   clear hb hb2
   go_wp2_with (go_at_call 77; refine HB.out.mono ?_; rintro e w2 ⟨rfl, hs2⟩)
   go_roundg (N + 20 - b)
   case measure => have := HB2.out; omega
   case rel => exact ⟨b, b2, _, HB2.out.2, hlt, rfl, rfl, rfl, by rw [HB2.out.1]; exact HF2.out, hs2⟩
  have hlt2 : ¬ (b : Int) ≤ (N : Int) := by omega
  obtain ⟨P, X, rfl, hP, hX, hF2⟩ := HF.out.last (by rw [HN.out]; omega)
  have hlen := HF.out.len
  have HB := zH (insertion_any enc hk h1 lt W w0 wr g cap a N N T rest P X [] HC.out HST.out hP (by rw [hX, HN.out]) (by rw [hlen, HN.out]) (by omega))
  have HF2 := zH hF2
  clear hP hX hF2 hlen HST hb
  go_wp2_with (go_at_call 77; refine HB.out.mono ?_; rintro e w2 ⟨rfl, hs2⟩)
  have HS2 := zH hs2
  clear hs2 HB HF
  go_loopg [6] (2 * N) (fun c v wr => ∃ (s : Nat) (row : List α), 20 ≤ s ∧ s ≤ 2 * N + 20 ∧ c = 2 * N + 20 - s ∧ v = .int .i64 s ∧ Stb.Blks lt s xs row ∧ Sw w0 wr g T enc rest row)
  case atStart => exact ⟨20, _, Nat.le_refl _, by omega, by omega, rfl, HF2.out, HS2.out⟩
  case round =>
   clear HS2 HF2 hlt2 hlt
   obtain ⟨s, row, hs20, hs2N, rfl, rfl, hf, hst⟩ := hrel
   have HST := zH hst
   have HF := zH hf
   clear hst hf
   by_cases hlt : s < N
   ·have hlt2 : (s : Int) < (N : Int) := by omega
    obtain ⟨d, hd⟩ : ∃ d, d = 2 * s := ⟨_, rfl⟩
    have e1 : 2 * (s : Int) = (d : Int) := by omega
    have e1b : (s : Int) * 2 = (d : Int) := by omega
    have wd : IntKind.i64.wrap (d : Int) = (d : Int) := by rw [IntKind.wrap_i64]; omega
    have HD := zH hd
    clear hd
    go_wp2_with fail
    go_loopg [7, 8] (N + d) (fun c u v wr => ∃ (a b : Nat) (row : List α), b = a + d ∧ a ≤ N ∧ c = N + d - a ∧ u = .int .i64 a ∧ v = .int .i64 b ∧ Stb.Half lt s a xs row ∧ Sw w0 wr g T enc rest row)
    case atStart => exact ⟨0, d, row, by omega, Nat.zero_le _, rfl, rfl, rfl, HF.out.half, HST.out⟩
    case round =>
     clear HST HF
     obtain ⟨a, b, row2, hb, haN, rfl, rfl, rfl, hf, hst⟩ := hrel
     have HST := zH hst
     have HF := zH hf
     clear hst hf
     by_cases hlb : b ≤ N
     ·have hlb2 : (b : Int) ≤ (N : Int) := by omega
      obtain ⟨P, A, B, S, rfl, hP, hA, hB, hsA, hsB, hF2⟩ := HF.out.cut W (by omega) (by rw [HN.out]; have := HD.out; omega)
      have hlen := HF.out.len
      obtain ⟨m, hm⟩ : ∃ m, m = a + s := ⟨_, rfl⟩
      have e2 : (a : Int) + (s : Int) = (m : Int) := by omega
      have wm : IntKind.i64.wrap (m : Int) = (m : Int) := by rw [IntKind.wrap_i64]; omega
      have HB := zH (symMerge_any enc hk h1 lt W w0 g cap N T rest HC.out (by omega) _ P A B S a m b wr (ne_of_len (by omega)) (ne_of_len (by omega)) (Nat.le_refl _) HST.out hP (by rw [hA, hm]) (by have := HD.out; omega) hsA hsB (by rw [hlen, HN.out]))
      obtain ⟨b2, hb2⟩ : ∃ b2, b2 = b + d := ⟨_, rfl⟩
      have e3 : (b : Int) + (d : Int) = (b2 : Int) := by omega
      have wb : IntKind.i64.wrap (b2 : Int) = (b2 : Int) := by rw [IntKind.wrap_i64]; omega
      have HB2 := zH (And.intro hb hb2)
      have HF2 := zH hF2
      clear hP hA hB hsA hsB hF2 hlen HST hb hb2 hm
      go_wp2_with (go_at_call 78; refine HB.out.mono ?_; rintro e w2 ⟨rfl, hs2⟩)
      go_roundg (N + d - b)
      case measure => have := HB2.out; omega
      case rel => exact ⟨b, b2, _, HB2.out.2, hlb, rfl, rfl, rfl, by rw [HB2.out.1, HD.out]; exact HF2.out, hs2⟩
     have hlb2 : ¬ (b : Int) ≤ (N : Int) := by omega
     obtain ⟨m, hm⟩ : ∃ m, m = a + s := ⟨_, rfl⟩
     have e2 : (a : Int) + (s : Int) = (m : Int) := by omega
     have wm : IntKind.i64.wrap (m : Int) = (m : Int) := by rw [IntKind.wrap_i64]; omega
     by_cases hmN : m < N
     ·have hmN2 : (m : Int) < (N : Int) := by omega
      obtain ⟨P, A, B, rfl, hP, hA, hB, hsA, hsB, hF2⟩ := HF.out.last W (by rw [HN.out]; have := HD.out; omega) (by rw [HN.out]; omega)
      have hlen := HF.out.len
      rw [HN.out] at hB
      have HB := zH (symMerge_any enc hk h1 lt W w0 g cap N T rest HC.out (by omega) _ P A B [] a m N wr (ne_of_len (by omega)) (ne_of_len (by omega)) (Nat.le_refl _) HST.out hP (by rw [hA, hm]) (by omega) hsA hsB (by rw [hlen, HN.out]))
      have HF2 := zH hF2
      clear hP hA hB hsA hsB hF2 hlen HST hb hm
      go_wp2_with (go_at_call 78; refine HB.out.mono ?_; rintro e w2 ⟨rfl, hs2⟩)
      go_roundg (2 * N + 20 - d)
      case measure => have := HD.out; omega
      case rel => exact ⟨d, _, by have := HD.out; omega, by have := HD.out; omega, rfl, rfl, by rw [HD.out]; exact HF2.out, hs2⟩
     have hmN2 : ¬ (m : Int) < (N : Int) := by omega
     have HF2 := zH (HF.out.none (by rw [HN.out]; have := HD.out; omega) (by rw [HN.out]; omega))
     clear hb hm
     go_wp2_with fail
     go_roundg (2 * N + 20 - d)
     case measure => have := HD.out; omega
     case rel => exact ⟨d, _, by have := HD.out; omega, by have := HD.out; omega, rfl, rfl, by rw [HD.out]; exact HF2.out, HST.out⟩
   have hlt2 : ¬ (s : Int) < (N : Int) := by omega
   have HR := zH (HF.out.all (by rw [HN.out]; omega))
   go_wp2_with fail
   go_end0
   exact ⟨rfl, by rw [← HR.out]; exact HST.out⟩

theorem sortStable_any {α : Type} (enc : α → List Value) (hk : ∀ x, (enc x).length = 8) (h1 : ∀ x, ∀ v, v ∈ enc x → v.oneCell' = true) (lt : α → α → Bool) (W : Stb.Wk lt) (w0 w : World) (g cap N : Nat) (T : TypeId) (rest : List Value) (xs : List α) (hc : (∀ wr, Own g w0 wr → ∀ x y : α, Calls Tryz.prog 26 #[.agg (enc x).toArray, .agg (enc y).toArray] wr fun e w' => ∃ z : Int, e = .returned (.int .i64 z) ∧ (z < 0 ↔ lt x y = true) ∧ Ext wr w')) (hst : Sw w0 w g T enc rest xs) (hN : xs.length = N) (hsz : N ≤ 20000) :
  Calls Tryz.prog 25 #[.slice (some ⟨g, 0, none⟩) N cap, .func (.func 26) #[] #[]] w fun e w' => e = .returned (.tuple #[]) ∧ Sw w0 w' g T enc rest (Stb.stab lt xs) := by
 have HB := zH (stable_any enc hk h1 lt W w0 w g cap N T rest xs hc hst hN hsz)
 clear hc hst hN
 go_enter Tryz.func25, Tryz.ntmps25
 go_wp2_with (go_at_call 50; refine HB.out.mono ?_; rintro e w2 ⟨rfl, hs2⟩)
 go_end0
 exact ⟨rfl, hs2⟩

theorem insertion_none (v c : Value) (w : World) : Calls Tryz.prog 77 #[v, .int .i64 0, .int .i64 0, c] w fun e w' => e = .returned (.tuple #[]) ∧ w = w' := by
  go_enter Tryz.func77, Tryz.ntmps77
  go_wp2_with fail
  refine wp_loop_rounds 1 ?_
  rw [rounds_succ]
  go_wp2_with fail
  go_end0
  exact ⟨rfl, rfl⟩
theorem stable_none (v c : Value) (w : World) : Calls Tryz.prog 50 #[v, .int .i64 0, c] w fun e w' => e = .returned (.tuple #[]) ∧ w = w' := by
  go_enter Tryz.func50, Tryz.ntmps50
  go_wp2_with fail
  refine wp_loop_rounds 1 ?_
  rw [rounds_succ]
  go_wp2_with (go_at_call 77; refine (insertion_none _ _ _).mono ?_; rintro e w2 ⟨rfl, rfl⟩)
  refine wp_loop_rounds 1 ?_
  rw [rounds_succ]
  go_wp2_with fail
  go_end0
  exact ⟨rfl, rfl⟩
theorem sortStable_none (A : Option Addr) (cap : Nat) (c : Value) (w : World) : Calls Tryz.prog 25 #[.slice A 0 cap, c] w fun e w' => e = .returned (.tuple #[]) ∧ w = w' := by
  go_enter Tryz.func25, Tryz.ntmps25
  go_wp2_with (go_at_call 50; refine (stable_none _ _ _).mono ?_; rintro e w2 ⟨rfl, rfl⟩)
  go_end0
  exact ⟨rfl, rfl⟩
end Go.Proofs.YtmgibncehlpfkaaGreat.spn

namespace Go.Proofs.YtmgibncehlpfkaaGreat
open Go.RowKit
attribute [local go_sem ↓] Go.wp_at_zero Go.wp_at_succ run_max_ii run_min_ii

def rvCells (rs : List RV) : List Value := rs.flatMap fun a => [.bool a.n, .slice a.p a.l a.c, .bool a.m, .slice a.p2 a.l2 a.c2]
theorem rvCells_length (rs : List RV) : (rvCells rs).length = rs.length * 4 := by
  induction rs with
  | nil => rfl
  | cons x xs ih => simp only [rvCells, List.flatMap_cons, List.length_append, List.length_cons, List.length_nil] at ih ⊢; omega
theorem rvCells_get (rs : List RV) : ∀ (i j : Nat), i < rs.length → j < 4 → (rvCells rs)[i * 4 + j]? = [.bool (rs.getD i RV.zero).n, .slice (rs.getD i RV.zero).p (rs.getD i RV.zero).l (rs.getD i RV.zero).c, .bool (rs.getD i RV.zero).m, .slice (rs.getD i RV.zero).p2 (rs.getD i RV.zero).l2 (rs.getD i RV.zero).c2][j]? := by
 induction rs with
 | nil => intro i j hi; simp at hi
 | cons x xs ih =>
  intro i j hi hj
  have e : rvCells (x :: xs) = [.bool x.n, .slice x.p x.l x.c, .bool x.m, .slice x.p2 x.l2 x.c2] ++ rvCells xs := by simp [rvCells]
  rw [e]
  cases i with
  | zero => rw [List.getElem?_append_left (by simp; omega), Nat.zero_mul, Nat.zero_add]; rfl
  | succ i =>
   rw [List.getElem?_append_right (by simp; omega)]
   have := ih i j (by simpa using hi) hj
   simp only [List.length_cons, List.length_nil]
   rw [show (i + 1) * 4 + j - (0 + 1 + 1 + 1 + 1) = i * 4 + j by omega, this]
   rfl
def RatsV (L : Nat) (w : World) (v : Value) (qs : List Rat) : Prop :=
  ∃ (A : Option Addr) (cap : Nat) (rs : List RV), v = .slice A qs.length cap ∧ rs.length = qs.length ∧ (∀ i, i < qs.length → (rs.getD i RV.zero).In L w (qs.getD i 0)) ∧
    (0 < qs.length → ∃ g off, A = some ⟨g, off, none⟩ ∧ ∀ i, i < qs.length → w.rangeAt g (off + i * 4) [.bool (rs.getD i RV.zero).n, .slice (rs.getD i RV.zero).p (rs.getD i RV.zero).l (rs.getD i RV.zero).c, .bool (rs.getD i RV.zero).m, .slice (rs.getD i RV.zero).p2 (rs.getD i RV.zero).l2 (rs.getD i RV.zero).c2])
theorem range_ext {w w' : World} {g o : Nat} {cs : List Value} (h : w.rangeAt g o cs) (x : Ext w w') : w'.rangeAt g o cs := fun j v hv => x.get (h j v hv)
theorem RatsV.ext {L : Nat} {w w' : World} {v : Value} {qs : List Rat} (h : RatsV L w v qs) (x : Ext w w') : RatsV L w' v qs := by
  obtain ⟨A, cap, rs, h1, h2, h3, h4⟩ := h
  refine ⟨A, cap, rs, h1, h2, fun i hi => (h3 i hi).ext x, fun h0 => ?_⟩
  obtain ⟨g, off, h5, h6⟩ := h4 h0
  exact ⟨g, off, h5, fun i hi => range_ext (h6 i hi) x⟩
theorem RatsV.of_row {L : Nat} {w : World} {base : Nat} {e : TypeId} {v : Value} {rs : List RV} {qs : List Rat} (h : RowN w base e 4 v rs.length (rvCells rs)) (hl : rs.length = qs.length) (hq : ∀ i, i < qs.length → (rs.getD i RV.zero).In L w (qs.getD i 0)) : RatsV L w v qs := by
 obtain ⟨h1, ⟨rfl, h2⟩ | ⟨g, cap, rest, rfl, _, hg, _⟩⟩ := h
 ·exact ⟨none, 0, rs, by rw [← hl, h2], hl, hq, fun h0 => by omega⟩
 refine ⟨_, cap, rs, by rw [hl], hl, hq, fun h0 => ⟨g, 0, rfl, fun i hi j u hu => ?_⟩⟩
 have hj : j < 4 := (List.getElem?_eq_some_iff.1 hu).1
 rw [Nat.zero_add, hg.cell, List.getElem?_toArray, List.getElem?_append_left (by rw [rvCells_length]; omega), rvCells_get rs i j (by omega) hj]
 exact hu

end Go.Proofs.YtmgibncehlpfkaaGreat

namespace Go.Proofs.YtmgibncehlpfkaaGreat
open Go.RowKit

abbrev QQ := Rat × Rat
def some2 (ps : List QQ) : List QQ := ps.filter fun p => decide (p.1 < p.2)
def ltQ (a b : QQ) : Bool := decide (a.1 < b.1)
def mstep (out : List QQ) (s : QQ) : List QQ := match out.getLast? with
  | none => out ++ [s]
  | some l => if l.2 < s.1 then out ++ [s] else if l.2 < s.2 then out.dropLast ++ [(l.1, s.2)] else out
def sortedV (ps : List QQ) : List QQ := Stb.stab ltQ (some2 ps)
def mergeV (ps : List QQ) : List QQ := (sortedV ps).foldl mstep []
theorem some2_succ {ps : List QQ} {k : Nat} {p : QQ} (h : ps[k]? = some p) : some2 (ps.take (k + 1)) = if p.1 < p.2 then some2 (ps.take k) ++ [p] else some2 (ps.take k) := by
  obtain ⟨hk, rfl⟩ := List.getElem?_eq_some_iff.1 h
  unfold some2
  rw [List.take_succ_eq_append_getElem hk, List.filter_append]
  by_cases hp : ps[k].1 < ps[k].2
  · rw [if_pos hp]; simp [hp]
  rw [if_neg hp]; simp [hp]
theorem mstep_fold {l : List QQ} {k : Nat} {p : QQ} (h : l[k]? = some p) : (l.take (k + 1)).foldl mstep [] = mstep ((l.take k).foldl mstep []) p := by
  obtain ⟨hk, rfl⟩ := List.getElem?_eq_some_iff.1 h
  rw [List.take_succ_eq_append_getElem hk, List.foldl_append]
  rfl
theorem ins_map {α β : Type} (f : α → β) {lt : α → α → Bool} {lt' : β → β → Bool} (h : ∀ x y, lt x y = lt' (f x) (f y)) (l : List α) (y : α) : (Stb.ins lt l y).map f = Stb.ins lt' (l.map f) (f y) := by
  induction l with
  | nil => rfl
  | cons x l ih =>
    rw [Stb.ins, List.map_cons, Stb.ins, ← h]
    split
    · rfl
    rw [List.map_cons, ih]
theorem stab_map {α β : Type} (f : α → β) {lt : α → α → Bool} {lt' : β → β → Bool} (h : ∀ x y, lt x y = lt' (f x) (f y)) (l : List α) : (Stb.stab lt l).map f = Stb.stab lt' (l.map f) := by
  induction l using Stb.rev_rec with
  | nil => rfl
  | snoc l y ih => rw [Stb.stab_snoc, ins_map f h, ih, List.map_append]; exact (Stb.stab_snoc _ _).symm
theorem wkQ {α : Type} (f : α → Rat) : Stb.Wk (fun x y : α => decide (f x < f y)) := by
  refine ⟨fun x y h => ?_, fun x y z h1 h2 => ?_⟩
  · rw [decide_eq_true_iff] at h
    rw [decide_eq_false_iff_not]
    intro h2
    grind
  rw [decide_eq_false_iff_not] at h1 h2 ⊢
  grind
theorem infoSp : (Tryz.prog.info? 39).map (fun i => (i.zero, i.size, i.bytes)) = some (some (.agg z8), 8, 128) := by kernel_rfl
theorem noUL_zsp : NoUL (Value.agg z8).cells.toList := by intro x hx k; simp [Value.cells] at hx; rcases hx with rfl | rfl | rfl | rfl | rfl | rfl | rfl | rfl <;> simp
theorem new_cells (w : World) (cs : List Value) (t : TypeId) : ∀ (j : Nat) (u : Value), cs[j]? = some u → (w.alloc (.cells cs.toArray t)).cell? ((⟨w.heap.size, 0, none⟩ : Addr).add j) = some u := by
  intro j u hj
  have e3 : (⟨w.heap.size, 0, none⟩ : Addr).add j = ⟨w.heap.size, j, none⟩ := by
    unfold Addr.add
    by_cases hz : j = 0
    · rw [if_pos hz, hz]
    rw [if_neg hz]; simp
  rw [e3, (Blk.new w t cs.toArray).cell j, List.getElem?_toArray]
  exact hj
theorem SpR.snoc {L : Nat} {w w' : World} {base g cap n : Nat} {v : Value} {es : List SpE} {e : SpE} (h : SpR L w base v es) (hn : es.length = n) (he : e.Ok L w) (h2 : RowN w' base 39 8 (.slice (some ⟨g, 0, none⟩) (n + 1) cap) (n + 1) (spCells es ++ e.cells))
    (h4 : ∀ (r : RV) (q : Rat), r.Is w q → r.Is w' q) : SpR L w' base (.slice (some ⟨g, 0, none⟩) (n + 1) cap) (es ++ [e]) := by
  subst hn
  refine ⟨by rw [spCells_snoc, List.length_append]; exact h2, fun x hx => ?_⟩
  rcases List.mem_append.1 hx with hx | hx
  · exact (h.2 x hx).map h4
  simp at hx; rw [hx]; exact he.map h4
theorem grown_of_ext {a b : World} (row : Option Nat) (h : Ext a b) : a.grownBy b row := ⟨h.os, h.tape, h.output, h.size, fun i hi _ => h.block i hi⟩
theorem ext_grown {a b c : World} {row : Option Nat} (h : Ext a b) (k : b.grownBy c row) : a.grownBy c row :=
  ⟨k.os.trans h.os, k.tape.trans h.tape, k.output.trans h.output, Nat.le_trans h.size k.size, fun i hi hn => (k.block i (Nat.lt_of_lt_of_le hi h.size) hn).trans (h.block i hi)⟩
theorem sp_far {L : Nat} {w : World} {base X : Nat} {v : Value} {es : List SpE} (h : SpR L w base v es) (hX : w.heap.size ≤ X) : v.ownBlock ≠ some X := by
  intro e
  rcases h.form with ⟨rfl, _⟩ | ⟨g, cap, rest, rfl, _, hs, _⟩
  · simp [Value.ownBlock] at e
  simp [Value.ownBlock] at e
  have := hs.blk.lt
  omega
theorem row_slice {w : World} {base : Nat} {e : TypeId} {size : Nat} {v : Value} {n : Nat} {xs : List Value} (h : RowN w base e size v n xs) : ∃ A c, v = .slice A n c := by
  obtain ⟨_, ⟨rfl, hz⟩ | ⟨gv, cap, rest, rfl, _⟩⟩ := h
  · exact ⟨none, 0, by rw [hz]⟩
  exact ⟨_, cap, rfl⟩

def ltE (e f : SpE) : Bool := decide (e.p < f.p)
theorem noU_row {es : List SpE} {rest : List Value} (h : NoUL rest) : NoU (spCells es ++ rest).toArray := by
  refine noU_of _ fun v hv x => ?_
  rcases List.mem_append.1 hv with hv | hv
  · exact noUL_sp es v hv x
  exact h v hv x
theorem flat_val {L : Nat} {w : World} : ∀ xs : List {e : SpE // e.Ok L w}, xs.flatMap (fun x => x.1.cells) = spCells (xs.map Subtype.val)
  | [] => rfl
  | x :: xs => by rw [List.flatMap_cons, flat_val xs]; rfl
theorem sortSp_any (L : Nat) (v : Value) (es : List SpE) (base : Nat) (w : World) (h : SpR L w base v es) (hL : L ≤ 60000) (hn : es.length ≤ 20000) :
  Calls Tryz.prog 25 #[v, .func (.func 26) #[] #[]] w fun e w' =>
   e = .returned (.tuple #[]) ∧ SpR L w' base v (Stb.stab ltE es) ∧ w.grownBy w' v.ownBlock := by
 rcases h.form with ⟨rfl, rfl⟩ | ⟨g, cap, rest, rfl, hb, hs, hc1, hc2, hc3, hc4⟩
 ·refine (spn.sortStable_none none 0 _ w).mono ?_
  rintro e w' ⟨rfl, rfl⟩
  exact ⟨rfl, h, World.grownBy.refl _ _⟩
 have hxs : ∃ xs : List {e : SpE // e.Ok L w}, xs.map Subtype.val = es := by
  have h2 := h.2
  clear h hs hc1 hc3 hn
  induction es with
  | nil => exact ⟨[], rfl⟩
  | cons e es ih =>
   obtain ⟨xs, hx⟩ := ih (fun f hf => h2 f (by simp [hf]))
   exact ⟨⟨e, h2 e (by simp)⟩ :: xs, by rw [List.map_cons, hx]⟩
 obtain ⟨xs, rfl⟩ := hxs
 have hnu : NoU (spCells (xs.map Subtype.val) ++ rest).toArray := noU_row hc4
 have hlen : xs.length = (xs.map Subtype.val).length := by rw [List.length_map]
 refine (spn.sortStable_any (fun x : {e : SpE // e.Ok L w} => x.1.cells) (fun _ => rfl) (fun x => x.1.one) (fun x y => decide (x.1.p < y.1.p)) (wkQ fun x : {e : SpE // e.Ok L w} => x.1.p) w w g cap _ 39 rest xs (fun wr o x y => ?_) ⟨by rw [flat_val]; exact hs.blk, Own.refl _ _⟩ hlen hn).mono ?_
 ·have hx : x.1.Ok L wr := x.2.map fun r q hr => hr.own hs.blk hnu o
  have hy : y.1.Ok L wr := y.2.map fun r q hr => hr.own hs.blk hnu o
  refine (mergeCmp_any L _ _ _ _ _ _ wr hx.ptIn hy.ptIn (by omega)).mono ?_
  rintro e w' ⟨rfl, hx2⟩
  exact ⟨_, rfl, by rw [decide_eq_true_iff]; exact rcmp_lt, hx2⟩
 rintro e w' ⟨rfl, hs2⟩
 have hm : (Stb.stab (fun x y : {e : SpE // e.Ok L w} => decide (x.1.p < y.1.p)) xs).map Subtype.val = Stb.stab ltE (xs.map Subtype.val) := stab_map Subtype.val (lt' := ltE) (fun _ _ => rfl) xs
 have hl2 : (Stb.stab ltE (xs.map Subtype.val)).length = (xs.map Subtype.val).length := Stb.stab_len _
 refine ⟨rfl, ⟨⟨spCells_length _, Or.inr ⟨g, cap, rest, by rw [hl2], hb, ?_, by rw [hl2]; exact hc1, hc2, ?_, ?_⟩⟩, fun e he => ?_⟩, ?_⟩
 ·have h3 := hs2.blk
  rw [flat_val, hm] at h3
  exact h3
 ·rw [spCells_length, hl2, ← spCells_length]; exact hc3
 ·exact (noUL_sp _).app hc4
 ·rw [← hm] at he
  obtain ⟨x, _, rfl⟩ := List.mem_map.1 he
  exact x.2.map fun r q hr => hr.own hs.blk hnu hs2.own
 show w.grownBy w' (Value.ownBlock _)
 have := hs2.own
 simpa [Value.ownBlock, Own] using this

theorem half (e : SpE) : e.cells = [.bool e.a.n, .slice e.a.p e.a.l e.a.c, .bool e.a.m, .slice e.a.p2 e.a.l2 e.a.c2] ++ [.bool e.b.n, .slice e.b.p e.b.l e.b.c, .bool e.b.m, .slice e.b.p2 e.b.l2 e.b.c2] := rfl
theorem SpR.turn {L : Nat} {w : World} {base g cap n : Nat} {es : List SpE} {l e : SpE} (h : SpR L w base (.slice (some ⟨g, 0, none⟩) (n + 1) cap) (es ++ [l])) (hn : es.length = n) (he : e.Ok L w) :
  w.there g (n * 8 + 4) 4 ∧ SpR L (w.setCells g (n * 8 + 4) [.bool e.b.n, .slice e.b.p e.b.l e.b.c, .bool e.b.m, .slice e.b.p2 e.b.l2 e.b.c2]) base (.slice (some ⟨g, 0, none⟩) (n + 1) cap) (es ++ [⟨l.a, e.b, l.p, e.q⟩]) ∧
   Own g w (w.setCells g (n * 8 + 4) [.bool e.b.n, .slice e.b.p e.b.l e.b.c, .bool e.b.m, .slice e.b.p2 e.b.l2 e.b.c2]) := by
 obtain ⟨hl, ⟨hv, _⟩ | ⟨g', cap', rest, hv, hb, hg, h3, h4, h5, h6⟩⟩ := h.1
 ·cases hv
 injection hv with e1 e2 e3
 injection e1 with e1
 injection e1 with e1
 subst e1 e3
 have hcells : spCells (es ++ [l]) ++ rest = (spCells es ++ [.bool l.a.n, .slice l.a.p l.a.l l.a.c, .bool l.a.m, .slice l.a.p2 l.a.l2 l.a.c2]) ++ ([.bool l.b.n, .slice l.b.p l.b.l l.b.c, .bool l.b.m, .slice l.b.p2 l.b.l2 l.b.c2] ++ rest) := by
  rw [spCells_snoc, half]; simp
 have hlA : (spCells es ++ ([.bool l.a.n, .slice l.a.p l.a.l l.a.c, .bool l.a.m, .slice l.a.p2 l.a.l2 l.a.c2] : List Value)).length = n * 8 + 4 := by rw [List.length_append, spCells_length, hn]; rfl
 have hnu : NoU (spCells (es ++ [l]) ++ rest).toArray := noU_row h6.right
 have hg0 := hg
 rw [hcells] at hg
 have ht := hg.therePart (n * 8 + 4) 4 (by rw [List.length_append, hlA]; simp)
 have hp := hg.setMid [.bool e.b.n, .slice e.b.p e.b.l e.b.c, .bool e.b.m, .slice e.b.p2 e.b.l2 e.b.c2] (by rfl)
 rw [hlA] at hp
 have ho : Own g w (w.setCells g (n * 8 + 4) [.bool e.b.n, .slice e.b.p e.b.l e.b.c, .bool e.b.m, .slice e.b.p2 e.b.l2 e.b.c2]) := Own.setCells_l _ _ (Own.refl _ _)
 refine ⟨ht, ⟨⟨spCells_length _, Or.inr ⟨g, cap, rest, by rw [List.length_append, hn]; rfl, hb, ?_, by rw [List.length_append] at h3 ⊢; exact h3, h4, ?_, (noUL_sp _).app h6.right⟩⟩, fun x hx => ?_⟩, ho⟩
 ·have e5 : spCells (es ++ [⟨l.a, e.b, l.p, e.q⟩]) ++ rest = (spCells es ++ [.bool l.a.n, .slice l.a.p l.a.l l.a.c, .bool l.a.m, .slice l.a.p2 l.a.l2 l.a.c2]) ++ ([.bool e.b.n, .slice e.b.p e.b.l e.b.c, .bool e.b.m, .slice e.b.p2 e.b.l2 e.b.c2] ++ rest) := by
   rw [spCells_snoc, half]; simp
  rw [e5]
  exact hp
 ·rw [spCells_length, List.length_append] at h5 ⊢; exact h5
 have hmap : ∀ x : SpE, x.Ok L w → x.Ok L (w.setCells g (n * 8 + 4) [.bool e.b.n, .slice e.b.p e.b.l e.b.c, .bool e.b.m, .slice e.b.p2 e.b.l2 e.b.c2]) := fun x hx => hx.map fun r q hr => hr.own hg0 hnu ho
 rcases List.mem_append.1 hx with hx | hx
 ·exact hmap x (h.2 x (by simp [hx]))
 simp at hx
 rw [hx]
 have hl1 := hmap l (h.2 l (by simp))
 have he1 := hmap e he
 exact ⟨hl1.1, he1.2.1, hl1.2.2.1, he1.2.2.2⟩
theorem SpR.grown {L : Nat} {w w' : World} {base : Nat} {v : Value} {es : List SpE} {row : Option Nat} (h : SpR L w base v es) (hg : w.grownBy w' row) (hne : ∀ j, v.ownBlock = some j → row ≠ some j) (hm : ∀ (r : RV) (q : Rat), r.Is w q → r.Is w' q) : SpR L w' base v es := by
  refine ⟨?_, fun e he => (h.2 e he).map hm⟩
  obtain ⟨hl, ⟨hv, hz⟩ | ⟨g, cap, rest, rfl, hb, hB, h3⟩⟩ := h.1
  · exact ⟨hl, Or.inl ⟨hv, hz⟩⟩
  exact ⟨hl, Or.inr ⟨g, cap, rest, rfl, hb, hB.grown hg (hne g (by simp [Value.ownBlock])), h3⟩⟩
theorem SpR.lt {L : Nat} {w : World} {base : Nat} {v : Value} {es : List SpE} (h : SpR L w base v es) : ∀ j, v.ownBlock = some j → j < w.heap.size := fun _ hj => Nat.lt_of_not_le fun hn => sp_far h hn hj
theorem SpR.rowNoU {L : Nat} {w : World} {base g n cap : Nat} {es : List SpE} (h : SpR L w base (.slice (some ⟨g, 0, none⟩) n cap) es) : ∃ cs : Array Value, Blk w g 39 cs ∧ NoU cs := by
  obtain ⟨hl, ⟨hv, _⟩ | ⟨g', cap', rest, hv, hb, hB, h3, h4, h5, h6⟩⟩ := h.1
  · cases hv
  injection hv with e1 _ _
  injection e1 with e1
  injection e1 with e1
  subst e1
  exact ⟨_, hB, noU_row h6.right⟩
theorem mstep_nil (s : QQ) : mstep [] s = [s] := rfl
theorem mstep_app (os : List QQ) (l s : QQ) : mstep (os ++ [l]) s = if l.2 < s.1 then os ++ [l] ++ [s] else if l.2 < s.2 then os ++ [(l.1, s.2)] else os ++ [l] := by
  unfold mstep
  rw [List.getLast?_concat]
  simp only [List.dropLast_concat]
theorem snoc_or {α : Type} (l : List α) : l = [] ∨ ∃ l' x, l = l' ++ [x] := by
  rcases List.eq_nil_or_concat l with h | ⟨a, b, h⟩
  · exact Or.inl h
  exact Or.inr ⟨a, b, by simpa using h⟩
theorem SpR.readEnd {L : Nat} {w : World} {base g cap n : Nat} {es : List SpE} {l : SpE} (h : SpR L w base (.slice (some ⟨g, 0, none⟩) (n + 1) cap) (es ++ [l])) (hn : es.length = n) :
  w.rangeAt g (n * 8 + 4) [.bool l.b.n, .slice l.b.p l.b.l l.b.c, .bool l.b.m, .slice l.b.p2 l.b.l2 l.b.c2] := by
 rcases h.form with ⟨hv, _⟩ | ⟨g', cap', rest, hv, _, hs, _⟩
 ·cases hv
 injection hv with e1 _ _
 injection e1 with e1
 injection e1 with e1
 subst e1
 have hr := hs.read (i := n) (x := l) (by rw [List.getElem?_append_right (by omega), hn, Nat.sub_self]; rfl) SpE.len
 intro j u hj
 have hr2 := hr (4 + j) u (by
  rw [half, List.getElem?_append_right (by simp)]
  simpa using hj)
 rw [Nat.add_assoc]
 exact hr2
theorem NIn.ofb {L : Nat} {w : World} {e : SpE} (h : e.Ok L w) : NIn L w ([.bool e.b.n, .slice e.b.p e.b.l e.b.c, .bool e.b.m, .slice e.b.p2 e.b.l2 e.b.c2] : List Value).toArray e.q := ⟨e.b, rfl, h.2.1.isIn h.2.2.2⟩
theorem SpR.set {L : Nat} {w : World} {base g cap n i : Nat} {es : List SpE} {e : SpE} (h : SpR L w base (.slice (some ⟨g, 0, none⟩) n cap) es) (hi : i < es.length) (he : e.Ok L w) :
  w.there g (i * 8) 8 ∧ SpR L (w.setCells g (i * 8) e.cells) base (.slice (some ⟨g, 0, none⟩) n cap) (es.set i e) ∧ Own g w (w.setCells g (i * 8) e.cells) := by
 obtain ⟨hl, ⟨hv, _⟩ | ⟨g', cap', rest, hv, hb, hB, h3, h4, h5, h6⟩⟩ := h.1
 ·cases hv
 injection hv with e1 e2 e3
 injection e1 with e1
 injection e1 with e1
 subst e1 e3
 have hs : Sw w w g 39 SpE.cells rest es := Sw.refl hB
 have hp := hs.put hi SpE.len e
 have ho : Own g w (w.setCells g (i * 8) e.cells) := hp.own
 have hnu : NoU (spCells es ++ rest).toArray := noU_row h6.right
 have hmap : ∀ x : SpE, x.Ok L w → x.Ok L (w.setCells g (i * 8) e.cells) := fun x hx => hx.map fun r q hr => hr.own hB hnu ho
 refine ⟨hs.there hi SpE.len, ⟨⟨spCells_length _, Or.inr ⟨g, cap, rest, by rw [List.length_set, ← e2], hb, hp.blk, by rw [List.length_set]; exact h3, h4, by rw [spCells_length, List.length_set, ← spCells_length]; exact h5, (noUL_sp _).app h6.right⟩⟩, fun x hx => ?_⟩, ho⟩
 rcases List.mem_or_eq_of_mem_set hx with hx | rfl
 ·exact hmap x (h.2 x hx)
 exact hmap x he
theorem SpR.read {L : Nat} {w : World} {base g n cap i : Nat} {es : List SpE} {e : SpE} (h : SpR L w base (.slice (some ⟨g, 0, none⟩) n cap) es) (he : es[i]? = some e) : w.rangeAt g (i * 8) e.cells := by
  rcases h.form with ⟨hv, _⟩ | ⟨g', cap', rest, hv, _, hs, _⟩
  · cases hv
  injection hv with e1 _ _
  injection e1 with e1
  injection e1 with e1
  subst e1
  exact hs.read he SpE.len
theorem range_left {w : World} {g o : Nat} {a b : List Value} (h : w.rangeAt g o (a ++ b)) : w.rangeAt g o a := fun j v hv => h j v (by rw [List.getElem?_append_left (List.getElem?_eq_some_iff.1 hv).1]; exact hv)
theorem range_right {w : World} {g o n : Nat} {a b : List Value} (h : w.rangeAt g o (a ++ b)) (hn : a.length = n) : w.rangeAt g (o + n) b := fun j v hv => by
  have := h (n + j) v (by rw [List.getElem?_append_right (by omega), show n + j - a.length = j by omega]; exact hv)
  rwa [← Nat.add_assoc] at this
theorem SpansV.at {L : Nat} {w : World} {v : Value} {ps : List QQ} (h : SpansV L w v ps) {k : Nat} {p : QQ} (hp : ps[k]? = some p) :
  ∃ (g off cap : Nat) (e : SpE), v = .slice (some ⟨g, off, none⟩) ps.length cap ∧ w.rangeAt g (off + k * 8) e.cells ∧ e.a.In L w p.1 ∧ e.b.In L w p.2 := by
 obtain ⟨A, cap, rfl, h2⟩ := h
 obtain ⟨g, off, rfl, h4⟩ := h2 (by have := (List.getElem?_eq_some_iff.1 hp).1; omega)
 obtain ⟨cs, h5, a, b, h6, h7, h8⟩ := h4 k p hp
 have e : cs = SpE.cells ⟨a, b, p.1, p.2⟩ := by
  exact congrArg Array.toList h6
 exact ⟨g, off, cap, ⟨a, b, p.1, p.2⟩, rfl, by rw [← e]; exact h5, h7, h8⟩
theorem SpR.same {L : Nat} {w : World} {base g n cap n2 cap2 : Nat} {es : List SpE} (h : SpR L w base (.slice (some ⟨g, 0, none⟩) n cap) es) (hn : n = n2) (hc : cap = cap2) : SpR L w base (.slice (some ⟨g, 0, none⟩) n2 cap2) es := by subst hn hc; exact h
theorem SpR.mono {L : Nat} {w : World} {base base' : Nat} {v : Value} {es : List SpE} (h : SpR L w base v es) (hb : base' ≤ base) : SpR L w base' v es := by
  refine ⟨?_, h.2⟩
  obtain ⟨hl, ⟨hv, hz⟩ | ⟨g, cap, rest, rfl, h2, h3⟩⟩ := h.1
  · exact ⟨hl, Or.inl ⟨hv, hz⟩⟩
  exact ⟨hl, Or.inr ⟨g, cap, rest, rfl, Nat.le_trans hb h2, h3⟩⟩
end Go.Proofs.YtmgibncehlpfkaaGreat

namespace Go.Proofs.YtmgibncehlpfkaaGreat
open Go.RowKit
attribute [local go_sem ↓] Go.wp_at_zero Go.wp_at_succ run_max_ii run_min_ii
def RV.sm (a : RV) : Bool := decide (a.l ≤ 20) && decide (a.l2 ≤ 20)
def RawV (w : World) (v : Value) (es : List (RV × RV)) : Prop :=
  ∃ (A : Option Addr) (cap : Nat), v = .slice A es.length cap ∧ (0 < es.length → ∃ g off, A = some ⟨g, off, none⟩ ∧ ∀ i x, es[i]? = some x → w.rangeAt g (off + i * 8) (SpE.cells ⟨x.1, x.2, 0, 0⟩))
theorem RawV.ext {w w' : World} {v : Value} {es : List (RV × RV)} (h : RawV w v es) (x : Ext w w') : RawV w' v es := by
  obtain ⟨A, cap, h1, h2⟩ := h
  refine ⟨A, cap, h1, fun h0 => ?_⟩
  obtain ⟨g, off, h3, h4⟩ := h2 h0
  exact ⟨g, off, h3, fun i y hy => range_ext (h4 i y hy) x⟩
def smAll (es : List (RV × RV)) : Bool := es.all fun x => x.1.sm && x.2.sm
set_option maxRecDepth 20000 in
set_option maxHeartbeats 4000000 in
theorem small_is {a : RV} {b : Bool} (h : a.sm = b) (w : World) :
  Calls Tryz.prog 5 #[.agg #[.bool a.n, .slice a.p a.l a.c, .bool a.m, .slice a.p2 a.l2 a.c2]] w fun e w' => e = .returned (.bool b) ∧ Ext w w' := by
 by_cases h1 : a.l ≤ 20
 ·have h1z : (a.l : Int) ≤ 20 := by omega
  by_cases h2 : a.l2 ≤ 20
  ·have h2z : (a.l2 : Int) ≤ 20 := by omega
   have hs : b = true := by rw [← h]; unfold RV.sm; simp [h1, h2]
   subst hs
   clear h
   go_enter Tryz.func5, Tryz.ntmps5
   go_wp2_with fail
   go_ret
   exact ⟨rfl, (Ext.refl _).alloc _⟩
  have h2z : ¬ (a.l2 : Int) ≤ 20 := by omega
  have hs : b = false := by rw [← h]; unfold RV.sm; simp [h2]
  subst hs
  clear h
  go_enter Tryz.func5, Tryz.ntmps5
  go_wp2_with fail
  go_ret
  exact ⟨rfl, (Ext.refl _).alloc _⟩
 have h1z : ¬ (a.l : Int) ≤ 20 := by omega
 have hs : b = false := by rw [← h]; unfold RV.sm; simp [h1]
 subst hs
 clear h
 go_enter Tryz.func5, Tryz.ntmps5
 go_wp2_with fail
 go_ret
 exact ⟨rfl, (Ext.refl _).alloc _⟩
theorem small_any (a : RV) (w : World) : Calls Tryz.prog 5 #[.agg #[.bool a.n, .slice a.p a.l a.c, .bool a.m, .slice a.p2 a.l2 a.c2]] w fun e w' => e = .returned (.bool a.sm) ∧ Ext w w' := small_is rfl w
end Go.Proofs.YtmgibncehlpfkaaGreat

namespace Go.Proofs.YtmgibncehlpfkaaGreat
open Go.RowKit
attribute [local go_sem ↓] Go.wp_at_zero Go.wp_at_succ run_eql_point run_neq_point

def clampI (n lo hi : Int) : Int := if n < lo then lo else if hi < n then hi else n

theorem clamp_any (n lo hi : Int) (w : World) :
    Calls Tryz.prog 103 #[.int .i64 n, .int .i64 lo, .int .i64 hi] w fun e w' => e = .returned (.int .i64 (clampI n lo hi)) ∧ w = w' := by
  go_enter Tryz.func103, Tryz.ntmps103
  go_wp2_with fail
  all_goals go_ret
  all_goals refine ⟨ret_int ?_, rfl⟩
  all_goals unfold clampI
  · rw [if_pos ‹_›]
  · rw [if_neg (by omega), if_pos ‹_›]
  · rw [if_neg (by omega), if_neg (by omega)]

theorem held_any (n : Int) (w : World) :
    Calls Tryz.prog 80 #[.int .i64 n] w fun e w' => e = .returned (.int .i64 (clampI n (-1048576) 1048576)) ∧ w = w' := by
  go_enter Tryz.func80, Tryz.ntmps80
  go_wp2_with (go_at_call 103; refine (clamp_any _ _ _ _).mono ?_; rintro e w' ⟨rfl, rfl⟩)
  go_ret
  exact ⟨rfl, rfl⟩

theorem hold_any (x y : Int) (w : World) :
    Calls Tryz.prog 53 #[.agg #[.int .i64 x, .int .i64 y]] w fun e w' => e = .returned (.agg #[.int .i64 (clampI x (-1048576) 1048576), .int .i64 (clampI y (-1048576) 1048576)]) ∧ Ext w w' := by
  go_enter Tryz.func53, Tryz.ntmps53
  go_wp2_with fail
  go_region_held3 (fun w' => w'.cell? ⟨w.heap.size, 0, none⟩ = some (.int .i64 x) ∧ w'.cell? ⟨w.heap.size, 1, none⟩ = some (.int .i64 y)) (go_keep)
    (first | (go_at_call 80; refine (held_any _ _).mono ?_; rintro e w' ⟨rfl, rfl⟩))
  go_wp2_with fail
  refine bodyPost_ret (v := .agg #[.int .i64 (clampI x (-1048576) 1048576), .int .i64 (clampI y (-1048576) 1048576)]) (by simp [results, Tryz.results53, go_sem]) rfl ⟨rfl, ?_⟩
  exact ((((Ext.refl _).alloc _).alloc _).drew)

theorem eq_clamp (x : Int) : (clampI x (-1048576) 1048576 == x) = decide (-1048576 ≤ x ∧ x ≤ 1048576) := by
  rw [Bool.eq_iff_iff]
  unfold clampI
  simp only [beq_iff_eq, decide_eq_true_eq]
  split
  · omega
  · split <;> omega

def okPt (x y : Int) : Bool := decide (-1048576 ≤ x ∧ x ≤ 1048576) && decide (-1048576 ≤ y ∧ y ≤ 1048576)

theorem valid_any (x y : Int) (w : World) :
    Calls Tryz.prog 31 #[.agg #[.int .i64 x, .int .i64 y]] w fun e w' => e = .returned (.bool (okPt x y)) ∧ Ext w w' := by
  have h0 : ∀ w', Ext (w.alloc (.cells #[.int .i64 x, .int .i64 y] 45)) w' → w'.cell? ⟨w.heap.size, 0, none⟩ = some (.int .i64 x) := fun w' h => h.get (by simp)
  have h1 : ∀ w', Ext (w.alloc (.cells #[.int .i64 x, .int .i64 y] 45)) w' → w'.cell? ⟨w.heap.size, 1, none⟩ = some (.int .i64 y) := fun w' h => h.get (by simp)
  go_enter Tryz.func31, Tryz.ntmps31
  go_wp2_with fail
  go_region_held3 (fun w' => Ext (w.alloc (.cells #[.int .i64 x, .int .i64 y] 45)) w') (first | assumption | exact Ext.drew (Ext.refl _) | (apply Ext.via; assumption; assumption))
    (first | (go_at_call 53; refine (hold_any _ _ _).mono ?_; rintro e w' ⟨rfl, hb⟩))
  go_wp2_with fail
  go_ret
  refine ⟨?_, ((Ext.refl _).alloc _).trans ‹_›⟩
  rw [eq_clamp, eq_clamp]; rfl

theorem rvalid_any (x y : Int) (w : World) :
    Calls Tryz.prog 68 #[.agg #[.int .i64 x, .int .i64 y]] w fun e w' => e = .returned (.bool (okPt x y)) ∧ Ext w w' := by
  have hp : ∀ b, okPt x y = b → (fun (e : Ending) (w' : World) => e = .returned (.bool b) ∧ Ext w w') = (fun (e : Ending) (w' : World) => e = .returned (.bool (okPt x y)) ∧ Ext w w') := fun b h => by rw [h]
  by_cases hx : -1048576 ≤ x
  · by_cases hx2 : x ≤ 1048576
    · by_cases hy : -1048576 ≤ y
      · rw [← hp (decide (y ≤ 1048576)) (by simp [okPt, hx, hx2, hy])]
        clear hp
        go_enter Tryz.func68, Tryz.ntmps68
        go_wp2_with fail
        go_ret
        exact ⟨rfl, (Ext.refl _).alloc _⟩
      · rw [← hp false (by simp [okPt, hy])]
        clear hp
        go_enter Tryz.func68, Tryz.ntmps68
        go_wp2_with fail
        go_ret
        exact ⟨rfl, (Ext.refl _).alloc _⟩
    · rw [← hp false (by simp [okPt, hx2])]
      clear hp
      go_enter Tryz.func68, Tryz.ntmps68
      go_wp2_with fail
      go_ret
      exact ⟨rfl, (Ext.refl _).alloc _⟩
  · rw [← hp false (by simp [okPt, hx])]
    clear hp
    go_enter Tryz.func68, Tryz.ntmps68
    go_wp2_with fail
    go_ret
    exact ⟨rfl, (Ext.refl _).alloc _⟩

def PtsAt (w : World) (b off : Nat) (ps : List (Int × Int)) : Prop :=
  ∀ i, i < ps.length → w.cell? ⟨b, off + i * 2, none⟩ = some (.int .i64 (ps.getD i (0, 0)).1) ∧ w.cell? ⟨b, off + i * 2 + 1, none⟩ = some (.int .i64 (ps.getD i (0, 0)).2)

theorem PtsAt.ext {w w' : World} {b off : Nat} {ps : List (Int × Int)} (h : PtsAt w b off ps) (e : Ext w w') : PtsAt w' b off ps :=
  fun i hi => ⟨e.get (h i hi).1, e.get (h i hi).2⟩

def okAll (ps : List (Int × Int)) : Bool := ps.all fun p => okPt p.1 p.2

theorem okAll_take_succ (ps : List (Int × Int)) (k : Nat) (hk : k < ps.length) :
    okAll (ps.take (k + 1)) = (okAll (ps.take k) && okPt (ps.getD k (0, 0)).1 (ps.getD k (0, 0)).2) := by
  unfold okAll
  rw [List.take_succ_eq_append_getElem hk, List.all_append]
  simp [List.getD, hk]

theorem okAll_stop (ps : List (Int × Int)) (k : Nat) (hk : k < ps.length) (h : okPt ps[k].1 ps[k].2 = false) : okAll ps = false := by
  unfold okAll
  rw [List.all_eq_false]
  exact ⟨ps[k], List.getElem_mem hk, by simp [h]⟩
theorem okAll_step (ps : List (Int × Int)) (k : Nat) (hk : k < ps.length) (h0 : okAll (ps.take k) = true) (h : okPt ps[k].1 ps[k].2 = true) : okAll (ps.take (k + 1)) = true := by
  rw [okAll_take_succ ps k hk, h0]
  simp [List.getD, hk, h]
theorem okAll_end (ps : List (Int × Int)) (k : Nat) (hk : k ≤ ps.length) (hge : ¬ k < ps.length) (h0 : okAll (ps.take k) = true) : okAll ps = true := by
  rwa [List.take_of_length_le (by omega)] at h0

end Go.Proofs.YtmgibncehlpfkaaGreat

namespace Go.Proofs.YtmgibncehlpfkaaGreat
open Go.RowKit
attribute [local go_sem ↓] Go.wp_at_zero Go.wp_at_succ run_eql_point run_neq_point run_max_ii run_min_ii

def PtsV (w : World) (v : Value) (ps : List (Int × Int)) : Prop :=
  ∃ (A : Option Addr) (cap : Nat), v = .slice A ps.length cap ∧ (ps ≠ [] → ∃ g off, A = some ⟨g, off, none⟩ ∧ PtsAt w g off ps)
theorem PtsV.ext {w w' : World} {v : Value} {ps : List (Int × Int)} (h : PtsV w v ps) (e : Ext w w') : PtsV w' v ps := by
  obtain ⟨A, cap, hv, ha⟩ := h
  exact ⟨A, cap, hv, fun hn => by obtain ⟨g, off, hA, hp⟩ := ha hn; exact ⟨g, off, hA, hp.ext e⟩⟩
abbrev Ring := List (Int × Int)
def RingsV (w : World) (v : Value) (rs : List Ring) : Prop :=
  ∃ (A : Option Addr) (cap : Nat), v = .slice A rs.length cap ∧ (0 < rs.length → ∃ g off, A = some ⟨g, off, none⟩ ∧ ∀ i r, rs[i]? = some r → ∃ B cb, w.cell? ⟨g, off + i, none⟩ = some (.slice B r.length cb) ∧ PtsV w (.slice B r.length cb) r)
theorem RingsV.ext {w w' : World} {v : Value} {rs : List Ring} (h : RingsV w v rs) (e : Ext w w') : RingsV w' v rs := by
  obtain ⟨A, cap, hv, ha⟩ := h
  refine ⟨A, cap, hv, fun hn => ?_⟩
  obtain ⟨g, off, hA, hp⟩ := ha hn
  refine ⟨g, off, hA, fun i r hr => ?_⟩
  obtain ⟨B, cb, h1, h2⟩ := hp i r hr
  exact ⟨B, cb, e.get h1, h2.ext e⟩
def tot (rs : List Ring) : Nat := rs.foldl (fun n r => n + r.length) 0
theorem tot_succ {rs : List Ring} {k : Nat} {r : Ring} (h : rs[k]? = some r) : tot (rs.take (k + 1)) = tot (rs.take k) + r.length := by
  obtain ⟨hk, rfl⟩ := List.getElem?_eq_some_iff.1 h
  unfold tot
  rw [List.take_succ_eq_append_getElem hk, List.foldl_append]
  rfl
theorem foldl_tot (rs : List Ring) (n : Nat) : rs.foldl (fun n r => n + r.length) n = n + tot rs := by
  induction rs generalizing n with
  | nil => rfl
  | cons r rs ih =>
    show rs.foldl (fun n r => n + r.length) (n + r.length) = n + rs.foldl (fun n r => n + r.length) (0 + r.length)
    rw [ih, ih (0 + r.length)]
    omega
theorem tot_app (a b : List Ring) : tot (a ++ b) = tot a + tot b := by
  have h := foldl_tot b (tot a)
  rw [← h]
  unfold tot
  rw [List.foldl_append]
theorem tot_take (rs : List Ring) (k : Nat) : tot (rs.take k) ≤ tot rs := by
  have h := tot_app (rs.take k) (rs.drop k)
  rw [List.take_append_drop] at h
  omega
def okR (rs : List Ring) : Bool := decide (tot rs ≤ 4096) && rs.all okAll
theorem okR_stop {rs : List Ring} {k : Nat} {r : Ring} (h : rs[k]? = some r) (h2 : 4096 < tot (rs.take (k + 1)) ∨ okAll r = false) : okR rs = false := by
  unfold okR
  rcases h2 with h2 | h2
  · have h3 : decide (tot rs ≤ 4096) = false := by
      rw [decide_eq_false_iff_not]
      have := tot_take rs (k + 1)
      omega
    rw [h3]; rfl
  · have h3 : rs.all okAll = false := by
      rw [List.all_eq_false]
      exact ⟨r, List.mem_of_getElem? h, by simp [h2]⟩
    rw [h3, Bool.and_false]
theorem okR_end {rs : List Ring} (h1 : tot rs ≤ 4096) (h2 : ∀ i r, i < rs.length → rs[i]? = some r → okAll r = true) : okR rs = true := by
  unfold okR
  rw [decide_eq_true h1, Bool.true_and, List.all_eq_true]
  intro r hr
  obtain ⟨i, hi⟩ := List.mem_iff_getElem?.1 hr
  exact h2 i r (List.getElem?_eq_some_iff.1 hi).1 hi

theorem pvc_any (x y : Int) (w : World) :
    Calls Tryz.prog 30 #[.agg #[.int .i64 x, .int .i64 y]] w fun e w' => e = .returned (.bool (!okPt x y)) ∧ Ext w w' := by
  go_enter Tryz.func30, Tryz.ntmps30
  go_wp2_with (go_at_call 31; refine (valid_any _ _ _).mono ?_; rintro e w2 ⟨rfl, hx⟩)
  go_ret
  exact ⟨rfl, ((Ext.refl _).alloc _).trans hx⟩

theorem mvc_any (x y : Int) (w : World) :
    Calls Tryz.prog 84 #[.agg #[.int .i64 x, .int .i64 y]] w fun e w' => e = .returned (.bool (!okPt x y)) ∧ Ext w w' := by
  go_enter Tryz.func84, Tryz.ntmps84
  go_wp2_with (go_at_call 31; refine (valid_any _ _ _).mono ?_; rintro e w2 ⟨rfl, hx⟩)
  go_ret
  exact ⟨rfl, ((Ext.refl _).alloc _).trans hx⟩

set_option maxRecDepth 20000 in
theorem pvi_any (u : Value) (ps : List (Int × Int)) (w : World) (hu : PtsV w u ps) (hn : ps.length ≤ 100000) :
    Calls Tryz.prog 52 #[u, .func (.func 30) #[] #[]] w fun e w' => ∃ z : Int, e = .returned (.int .i64 z) ∧ (decide (0 ≤ z)) = (!okAll ps) ∧ Ext w w' := by
  obtain ⟨A, cu, rfl, hA⟩ := hu
  have HA := zH hA
  clear hA
  go_enter Tryz.func52, Tryz.ntmps52
  go_wp2_with fail
  go_loopg [8] ps.length (fun c i wr => ∃ k : Nat, k ≤ ps.length ∧ c = ps.length - k ∧ i = .int .i64 k ∧ okAll (ps.take k) = true ∧ Ext w wr)
  case atStart => exact ⟨0, Nat.zero_le _, rfl, rfl, rfl, Ext.refl _⟩
  case round =>
    obtain ⟨k, hk, rfl, rfl, ho, hx⟩ := hrel
    have HO := zH ho
    have HX := zH hx
    clear ho hx
    by_cases hlt : k < ps.length
    · obtain ⟨g, off, rfl, hp⟩ := HA.out (by rintro rfl; simp at hlt)
      obtain ⟨c0, c1⟩ := (hp.ext HX.out) k hlt
      have HSU := zH (okAll_take_succ ps k hlt)
      have HST := zH (fun h => okAll_stop ps k hlt h)
      have hgd : ps.getD k (0, 0) = ps[k] := by simp [List.getD, hlt]
      rw [hgd] at c0 c1 HSU
      have hlt2 : (k : Int) < (ps.length : Int) := by omega
      have HLT := zH hlt
      generalize ps[k] = x at *
      clear hp hgd hlt
      by_cases hx : okPt x.1 x.2 = true
      · have hb : (!okPt x.1 x.2) = false := by rw [hx]; rfl
        go_upto_if 16 with (go_at_call 30; refine (pvc_any _ _ _).mono ?_; rintro e w2 ⟨rfl, hx2⟩)
        go_wp2_with fail
        go_roundg (ps.length - (k + 1))
        case measure => have := HLT.out; omega
        case rel => exact ⟨k + 1, HLT.out, rfl, by go_num, by rw [HSU.out, HO.out, hx]; rfl, HX.out.trans hx2⟩
      · have hb : (!okPt x.1 x.2) = true := by rw [eq_false_of_ne_true hx]; rfl
        go_upto_if 16 with (go_at_call 30; refine (pvc_any _ _ _).mono ?_; rintro e w2 ⟨rfl, hx2⟩)
        go_wp2_with fail
        go_ret
        exact ⟨_, rfl, by rw [HST.out (eq_false_of_ne_true hx)]; simp, HX.out.trans hx2⟩
    · have HE := zH (okAll_end ps k hk hlt HO.out)
      have hge : ¬ (k : Int) < (ps.length : Int) := by omega
      go_wp2_with fail
      go_ret
      exact ⟨_, rfl, by rw [HE.out]; simp, HX.out⟩
theorem pviC_any (u : Value) (ps : List (Int × Int)) (w : World) (hu : PtsV w u ps) (hn : ps.length ≤ 100000) :
    Calls Tryz.prog 29 #[u, .func (.func 30) #[] #[]] w fun e w' => e = .returned (.bool (!okAll ps)) ∧ Ext w w' := by
  have HC := zH (pvi_any u ps w hu hn)
  clear hu
  go_enter Tryz.func29, Tryz.ntmps29
  go_wp2_with (go_at_call 52; refine HC.out.mono ?_; rintro e w2 ⟨z, rfl, hz, hx2⟩)
  go_ret
  exact ⟨by rw [← hz]; rfl, hx2⟩

set_option maxRecDepth 20000 in
theorem mvi_any (u : Value) (ps : List (Int × Int)) (w : World) (hu : PtsV w u ps) (hn : ps.length ≤ 100000) :
    Calls Tryz.prog 52 #[u, .func (.func 84) #[] #[]] w fun e w' => ∃ z : Int, e = .returned (.int .i64 z) ∧ (decide (0 ≤ z)) = (!okAll ps) ∧ Ext w w' := by
  obtain ⟨A, cu, rfl, hA⟩ := hu
  have HA := zH hA
  clear hA
  go_enter Tryz.func52, Tryz.ntmps52
  go_wp2_with fail
  go_loopg [8] ps.length (fun c i wr => ∃ k : Nat, k ≤ ps.length ∧ c = ps.length - k ∧ i = .int .i64 k ∧ okAll (ps.take k) = true ∧ Ext w wr)
  case atStart => exact ⟨0, Nat.zero_le _, rfl, rfl, rfl, Ext.refl _⟩
  case round =>
    obtain ⟨k, hk, rfl, rfl, ho, hx⟩ := hrel
    have HO := zH ho
    have HX := zH hx
    clear ho hx
    by_cases hlt : k < ps.length
    · obtain ⟨g, off, rfl, hp⟩ := HA.out (by rintro rfl; simp at hlt)
      obtain ⟨c0, c1⟩ := (hp.ext HX.out) k hlt
      have HSU := zH (okAll_take_succ ps k hlt)
      have HST := zH (fun h => okAll_stop ps k hlt h)
      have hgd : ps.getD k (0, 0) = ps[k] := by simp [List.getD, hlt]
      rw [hgd] at c0 c1 HSU
      have hlt2 : (k : Int) < (ps.length : Int) := by omega
      have HLT := zH hlt
      generalize ps[k] = x at *
      clear hp hgd hlt
      by_cases hx : okPt x.1 x.2 = true
      · have hb : (!okPt x.1 x.2) = false := by rw [hx]; rfl
        go_upto_if 16 with (go_at_call 84; refine (mvc_any _ _ _).mono ?_; rintro e w2 ⟨rfl, hx2⟩)
        go_wp2_with fail
        go_roundg (ps.length - (k + 1))
        case measure => have := HLT.out; omega
        case rel => exact ⟨k + 1, HLT.out, rfl, by go_num, by rw [HSU.out, HO.out, hx]; rfl, HX.out.trans hx2⟩
      · have hb : (!okPt x.1 x.2) = true := by rw [eq_false_of_ne_true hx]; rfl
        go_upto_if 16 with (go_at_call 84; refine (mvc_any _ _ _).mono ?_; rintro e w2 ⟨rfl, hx2⟩)
        go_wp2_with fail
        go_ret
        exact ⟨_, rfl, by rw [HST.out (eq_false_of_ne_true hx)]; simp, HX.out.trans hx2⟩
    · have HE := zH (okAll_end ps k hk hlt HO.out)
      have hge : ¬ (k : Int) < (ps.length : Int) := by omega
      go_wp2_with fail
      go_ret
      exact ⟨_, rfl, by rw [HE.out]; simp, HX.out⟩
theorem mviC_any (u : Value) (ps : List (Int × Int)) (w : World) (hu : PtsV w u ps) (hn : ps.length ≤ 100000) :
    Calls Tryz.prog 29 #[u, .func (.func 84) #[] #[]] w fun e w' => e = .returned (.bool (!okAll ps)) ∧ Ext w w' := by
  have HC := zH (mvi_any u ps w hu hn)
  clear hu
  go_enter Tryz.func29, Tryz.ntmps29
  go_wp2_with (go_at_call 52; refine HC.out.mono ?_; rintro e w2 ⟨z, rfl, hz, hx2⟩)
  go_ret
  exact ⟨by rw [← hz]; rfl, hx2⟩

set_option maxRecDepth 20000 in
set_option maxHeartbeats 1000000 in
theorem polyValid_any (u : Value) (rs : List Ring) (w : World) (hu : RingsV w u rs) (hn : rs.length ≤ 100000) (hr : ∀ r, r ∈ rs → r.length ≤ 100000) :
    Calls Tryz.prog 17 #[u] w fun e w' => e = .returned (.bool (okR rs)) ∧ Ext w w' := by
  obtain ⟨A, cu, rfl, hA⟩ := hu
  have HA := zH hA
  have HR := zH hr
  clear hA hr
  go_enter Tryz.func17, Tryz.ntmps17
  go_wp2_with fail
  go_loopg [3, 8] rs.length (fun c n i wr => ∃ k m : Nat, k ≤ rs.length ∧ c = rs.length - k ∧ i = .int .i64 k ∧ n = .int .i64 m ∧ m = tot (rs.take k) ∧ m ≤ 4096 ∧ (∀ i r, i < k → rs[i]? = some r → okAll r = true) ∧ Ext w wr)
  case atStart => exact ⟨0, 0, Nat.zero_le _, rfl, rfl, rfl, rfl, Nat.zero_le _, fun i r h => absurd h (Nat.not_lt_zero _), Ext.refl _⟩
  case round =>
    obtain ⟨k, m, hk, rfl, rfl, rfl, hm, hm2, ho, hx⟩ := hrel
    have HO := zH ho
    have HX := zH hx
    have HM := zH hm
    clear ho hx hm
    by_cases hlt : k < rs.length
    · obtain ⟨r, hr⟩ : ∃ r, rs[k]? = some r := ⟨_, List.getElem?_eq_getElem hlt⟩
      obtain ⟨g, off, rfl, hp⟩ := HA.out (by omega)
      obtain ⟨B, cb, h1, h2⟩ := hp k r hr
      have c1 := HX.out.get h1
      have HP := zH (h2.ext HX.out)
      have HRL := zH (HR.out r (List.mem_of_getElem? hr))
      have HRK := zH hr
      have HTS := zH (tot_succ hr)
      have hlt2 : (k : Int) < (rs.length : Int) := by omega
      have HLT := zH hlt
      have hrl := HRL.out
      obtain ⟨m2, hm3⟩ : ∃ m2, m2 = m + r.length := ⟨_, rfl⟩
      have e1 : (m : Int) + (r.length : Int) = (m2 : Int) := by omega
      have wm : IntKind.i64.wrap (m2 : Int) = (m2 : Int) := by rw [IntKind.wrap_i64]; omega
      have HM2 := zH (show m2 = tot (rs.take (k + 1)) by rw [HTS.out, ← HM.out]; exact hm3)
      clear hp h1 h2 hr hlt hm3
      by_cases hbig : 4096 < m2
      · have hbz : (4096 : Int) < (m2 : Int) := by omega
        have HF := zH (okR_stop HRK.out (Or.inl (by rw [← HM2.out]; exact hbig)))
        go_wp2_with fail
        go_ret
        exact ⟨by rw [HF.out]; rfl, HX.out⟩
      · have hbz : ¬ (4096 : Int) < (m2 : Int) := by omega
        by_cases hok : okAll r = true
        · have hb : (!okAll r) = false := by rw [hok]; rfl
          go_upto_region 6 with fail
          go_upto_if 21 with (go_at_call 29; refine (pviC_any _ r _ HP.out hrl).mono ?_; rintro e w2 ⟨rfl, hx2⟩)
          go_wp2_with fail
          go_roundg (rs.length - (k + 1))
          case measure => have := HLT.out; omega
          case rel => exact ⟨k + 1, m2, HLT.out, rfl, by go_num, rfl, HM2.out, by omega, fun i r2 hi hr2 => by
            rcases Nat.lt_or_ge i k with h | h
            · exact HO.out i r2 h hr2
            · obtain rfl : i = k := by omega
              rw [HRK.out] at hr2
              injection hr2 with hr2
              rw [← hr2]; exact hok, HX.out.trans hx2⟩
        · have hb : (!okAll r) = true := by rw [eq_false_of_ne_true hok]; rfl
          have HF := zH (okR_stop HRK.out (Or.inr (eq_false_of_ne_true hok)))
          go_upto_region 6 with fail
          go_upto_if 21 with (go_at_call 29; refine (pviC_any _ r _ HP.out hrl).mono ?_; rintro e w2 ⟨rfl, hx2⟩)
          go_wp2_with fail
          go_ret
          exact ⟨by rw [HF.out]; rfl, HX.out.trans hx2⟩
    · obtain rfl : k = rs.length := by omega
      have HF := zH (okR_end (rs := rs) (by have h := HM.out; rw [List.take_of_length_le (Nat.le_refl _)] at h; omega) HO.out)
      have hge : ¬ (rs.length : Int) < (rs.length : Int) := by omega
      go_wp2_with fail
      go_ret
      exact ⟨by rw [HF.out]; rfl, HX.out⟩
theorem may_any (u : Value) (ps : List (Int × Int)) (w : World) (hu : PtsV w u ps) (hn : ps.length ≤ 100000) :
    Calls Tryz.prog 57 #[u] w fun e w' => e = .returned (.bool (okAll ps)) ∧ Ext w w' := by
  have HC := zH (mviC_any u ps w hu hn)
  clear hu
  go_enter Tryz.func57, Tryz.ntmps57
  go_wp2_with (go_at_call 29; refine HC.out.mono ?_; rintro e w2 ⟨rfl, hx2⟩)
  go_ret
  exact ⟨by simp, hx2⟩
end Go.Proofs.YtmgibncehlpfkaaGreat

namespace Go.Proofs.YtmgibncehlpfkaaGreat
open Go.ChangeShapes Go.WideShapes Go.ChangeAt Go.RowKit

theorem okWide_structQ {P : Program} {w : World} {r : Reach} {base : Nat} {t : TypeId} {fs : Array Field} {v : Value} (ht : P.underlying t = some (.struct fs)) (h : Value.okWide P w r base t v) : ∃ cs, v = .agg cs ∧ cs.size = P.cellsOf t := by
  simp only [Value.okWide, ht] at h
  obtain ⟨cs, h1, h2, _⟩ := h
  exact ⟨cs, h1, h2⟩
theorem cells_ringQ : Tryz.prog.cellsOf 43 = 1 := by kernel_rfl
instance : Inhabited RV := ⟨⟨false, none, 0, 0, false, none, 0, 0⟩⟩
def RawL (w : World) (es : List (RV × RV)) : Prop := ∀ x, x ∈ es → x.1.Raw w ∧ x.2.Raw w
section
variable {H : Type} {enc : TypeId × Value → H} {w : World} {base : Nat} {held : Bool}
theorem ring_openQ {fuel : Nat} {cs : List Value} {x : DataW H × List MemPlace} (h : DataW.trod enc Tryz.prog w base (fun _ => true) held fuel 43 cs = some x) :
  ∃ (A : Option Addr) (l : Ring) (cap : Nat), cs = [.slice A l.length cap] ∧ l.length ≤ maxLen ∧ PtsV w (.slice A l.length cap) l := by
 obtain ⟨A, len, cap, rfl, hl, hm, hx⟩ := slice_open Tryz.underlying43 (by rw [cells_pt]; decide) h
 by_cases h0 : 0 < len
 ·obtain ⟨g, off, rfl, hx'⟩ := hx h0
  rw [cells_pt] at hx'
  obtain ⟨l, rfl, hl2⟩ := list_of (α := Int × Int) len (fun i s => ∀ j u, [Value.int .i64 s.1, .int .i64 s.2][j]? = some u → w.cell? ⟨g, off + i * 2 + j, none⟩ = some u) (fun i hi => by
   obtain ⟨cs', n, y, _, h2, h3⟩ := hx' i hi
   obtain ⟨s, rfl⟩ := pt_open h3
   exact ⟨s, h2⟩)
  refine ⟨_, l, cap, rfl, by omega, _, cap, rfl, fun _ => ⟨g, off, rfl, fun i hi => ?_⟩⟩
  have h := hl2 i (0, 0) hi
  exact ⟨h 0 _ rfl, h 1 _ rfl⟩
 obtain rfl : len = 0 := by omega
 exact ⟨A, [], cap, rfl, Nat.zero_le _, A, cap, rfl, fun hn => absurd rfl hn⟩
theorem rings_openQ {fuel : Nat} {cs : List Value} {x : DataW H × List MemPlace} (h : DataW.trod enc Tryz.prog w base (fun _ => true) held fuel 22 cs = some x) :
  ∃ (A : Option Addr) (l : List Ring) (cap : Nat), cs = [.slice A l.length cap] ∧ l.length ≤ maxLen ∧ RingsV w (.slice A l.length cap) l ∧ ∀ r, r ∈ l → r.length ≤ maxLen := by
 obtain ⟨A, len, cap, rfl, hl, hm, hx⟩ := slice_open Tryz.underlying22 (by rw [cells_ringQ]; decide) h
 by_cases h0 : 0 < len
 ·obtain ⟨g, off, rfl, hx'⟩ := hx h0
  rw [cells_ringQ] at hx'
  obtain ⟨l, rfl, hl2⟩ := list_of (α := Ring) len (fun i r => (∃ B cb, w.cell? ⟨g, off + i, none⟩ = some (.slice B r.length cb) ∧ PtsV w (.slice B r.length cb) r) ∧ r.length ≤ maxLen) (fun i hi => by
   obtain ⟨cs', n, y, _, h2, h3⟩ := hx' i hi
   obtain ⟨B, r, cb, rfl, hr, hp⟩ := ring_openQ h3
   have := h2 0 _ rfl
   simp only [Nat.mul_one, Nat.add_zero] at this
   exact ⟨r, ⟨B, cb, this, hp⟩, hr⟩)
  refine ⟨_, l, cap, rfl, by omega, ⟨_, cap, rfl, fun _ => ⟨g, off, rfl, fun i x hx => ?_⟩⟩, fun x hx => ?_⟩
  ·have h := (hl2 i [] (List.getElem?_eq_some_iff.1 hx).1).1
   rw [List.getD_eq_getElem?_getD, hx] at h
   exact h
  obtain ⟨i, hi⟩ := List.mem_iff_getElem?.1 hx
  have h := (hl2 i [] (List.getElem?_eq_some_iff.1 hi).1).2
  rw [List.getD_eq_getElem?_getD, hi] at h
  exact h
 obtain rfl : len = 0 := by omega
 exact ⟨A, [], cap, rfl, Nat.zero_le _, ⟨A, cap, rfl, fun hn => absurd hn (by simp)⟩, fun x hx => by simp at hx⟩
end
theorem RawV.spans2 {w : World} {v : Value} {es : List (RV × RV)} (h : RawV w v es) (hr : RawL w es) (hs : smAll es = true) : ∃ ps : List (Rat × Rat), ps.length = es.length ∧ SpansV 20 w v ps ∧ ∀ (i : Nat) (x : RV × RV) (p : Rat × Rat), es[i]? = some x → ps[i]? = some p → x.1.In 20 w p.1 ∧ x.2.In 20 w p.2 := by
 obtain ⟨A, cap, rfl, h2⟩ := h
 obtain ⟨ps, hl, hp⟩ := list_of (α := Rat × Rat) es.length (fun i p => ∀ x, es[i]? = some x → x.1.In 20 w p.1 ∧ x.2.In 20 w p.2) (fun i hi => by
  have hm := List.getElem_mem hi
  obtain ⟨r1, r2⟩ := hr _ hm
  obtain ⟨q1, k1⟩ := r1.val
  obtain ⟨q2, k2⟩ := r2.val
  have hb := List.all_eq_true.1 hs _ hm
  simp only [RV.sm, Bool.and_eq_true, decide_eq_true_eq] at hb
  refine ⟨(q1, q2), fun x hx => ?_⟩
  obtain rfl : es[i] = x := by rw [List.getElem?_eq_getElem hi] at hx; injection hx
  exact ⟨k1 20 hb.1.1 hb.1.2, k2 20 hb.2.1 hb.2.2⟩)
 refine ⟨ps, hl, ⟨A, cap, by rw [hl], fun h0 => ?_⟩, fun i x p hx hpi => by
  have h5 := hp i (0, 0) (List.getElem?_eq_some_iff.1 hx).1 _ hx
  rwa [List.getD_eq_getElem?_getD, hpi] at h5⟩
 obtain ⟨g, off, h3, h4⟩ := h2 (by omega)
 refine ⟨g, off, h3, fun i p hip => ?_⟩
 have hi := (List.getElem?_eq_some_iff.1 hip).1
 have hi2 : i < es.length := by omega
 have hx := List.getElem?_eq_getElem hi2
 have h5 := hp i (0, 0) hi2 _ hx
 rw [List.getD_eq_getElem?_getD, hip] at h5
 exact ⟨_, h4 i _ hx, es[i].1, es[i].2, rfl, h5.1, h5.2⟩
theorem RawV.spans {w : World} {v : Value} {es : List (RV × RV)} (h : RawV w v es) (hr : RawL w es) (hs : smAll es = true) : ∃ ps : List (Rat × Rat), ps.length = es.length ∧ SpansV 20 w v ps := by
  obtain ⟨ps, h1, h2, _⟩ := h.spans2 hr hs
  exact ⟨ps, h1, h2⟩
theorem RV.sm_in {w : World} {a : RV} (h : a.Raw w) (hs : a.sm = true) : ∃ q : Rat, a.In 20 w q := by
  obtain ⟨q, k⟩ := h.val
  simp only [RV.sm, Bool.and_eq_true, decide_eq_true_eq] at hs
  exact ⟨q, k 20 hs.1 hs.2⟩
end Go.Proofs.YtmgibncehlpfkaaGreat

namespace Go.Proofs.YtmgibncehlpfkaaGreat
open Go.RowKit
attribute [local go_sem ↓] Go.wp_at_zero Go.wp_at_succ run_max_ii run_min_ii
def IntsV (w : World) (u : Value) (xs : List Int) : Prop := ∃ A c, u = .slice A xs.length c ∧ ∀ (k : Nat) (x : Int), xs[k]? = some x → ∃ g off, A = some ⟨g, off, none⟩ ∧ w.cell? ⟨g, off + k, none⟩ = some (.int .i64 x)
theorem IntsV.map {w w' : World} {u : Value} {xs : List Int} (h : IntsV w u xs) (k : Ext w w') : IntsV w' u xs := by
  obtain ⟨A, c, rfl, h⟩ := h
  refine ⟨A, c, rfl, fun i x hx => ?_⟩
  obtain ⟨g, off, rfl, h2⟩ := h i x hx
  exact ⟨g, off, rfl, k.get h2⟩
set_option maxRecDepth 20000 in
set_option maxHeartbeats 4000000 in
theorem equalInts_any (u v : Value) (xs : List Int) (w : World) (hu : IntsV w u xs) (hv : IntsV w v xs) (hn : xs.length ≤ 4611686018427387904) :
  Calls Tryz.prog 10 #[u, v] w fun e w' => e = .returned (.bool true) ∧ Ext w w' := by
 obtain ⟨A, cu, rfl, hA⟩ := hu
 obtain ⟨B, cv, rfl, hB⟩ := hv
 have HA := zH hA
 have HB := zH hB
 clear hA hB
 go_enter Tryz.func10, Tryz.ntmps10
 go_wp2_with fail
 go_loopg [13] xs.length (fun c i wr => ∃ k : Nat, k ≤ xs.length ∧ c = xs.length - k ∧ i = .int .i64 k ∧ Ext w wr)
 case atStart => exact ⟨0, Nat.zero_le _, rfl, rfl, Ext.refl _⟩
 case round =>
  obtain ⟨k, hk, rfl, rfl, hx⟩ := hrel
  have HX := zH hx
  clear hx
  by_cases hlt : k < xs.length
  ·have hlt2 : (k : Int) < (xs.length : Int) := by omega
   obtain ⟨x, hxx⟩ : ∃ x, xs[k]? = some x := ⟨_, List.getElem?_eq_getElem hlt⟩
   obtain ⟨g, off, rfl, hp⟩ := HA.out k x hxx
   obtain ⟨g2, off2, rfl, hq⟩ := HB.out k x hxx
   have h1 := HX.out.get hp
   have h2 := HX.out.get hq
   have HLT := zH hlt
   clear hp hq hxx
   go_wp2_with fail
   go_region
   go_wp2_with fail
   go_roundg (xs.length - (k + 1))
   case measure => have := HLT.out; omega
   case rel => exact ⟨k + 1, HLT.out, rfl, by go_num, HX.out.drew⟩
  obtain rfl : k = xs.length := by omega
  have hge : ¬ (xs.length : Int) < (xs.length : Int) := by omega
  go_wp2_with fail
  go_ret
  exact ⟨rfl, HX.out⟩
end Go.Proofs.YtmgibncehlpfkaaGreat

namespace Go.Proofs.YtmgibncehlpfkaaGreat
open Go.RowKit
attribute [local go_sem ↓] Go.wp_at_zero Go.wp_at_succ
theorem isNaN_any (n : Int) (w : World) : Calls Tryz.prog 63 #[.int .i64 n] w fun e w' => e = .returned (.bool false) ∧ Ext w w' := by
  have hne : (n != n) = false := by simp
  go_enter Tryz.func63, Tryz.ntmps63
  go_wp2_with fail
  go_ret
  exact ⟨by first | rfl | simp, Ext.refl _⟩
def cmpI (a b : Int) : Int := if a < b then -1 else if b < a then 1 else 0
theorem compare_any (a b : Int) (w : World) : Calls Tryz.prog 38 #[.int .i64 a, .int .i64 b] w fun e w' => e = .returned (.int .i64 (cmpI a b)) ∧ Ext w w' := by
 by_cases h1 : a < b
 ·have e : cmpI a b = -1 := by unfold cmpI; rw [if_pos h1]
  rw [e]
  go_enter Tryz.func38, Tryz.ntmps38
  go_wp2_with (go_at_call 63; refine (isNaN_any _ _).mono ?_; rintro e w2 ⟨rfl, hx2⟩)
  go_ret
  exact ⟨rfl, (Ext.refl _).trans (by first | assumption | (apply Ext.trans <;> assumption))⟩
 by_cases h2 : b < a
 ·have e : cmpI a b = 1 := by unfold cmpI; rw [if_neg h1, if_pos h2]
  rw [e]
  go_enter Tryz.func38, Tryz.ntmps38
  go_wp2_with (go_at_call 63; refine (isNaN_any _ _).mono ?_; rintro e w2 ⟨rfl, hx2⟩)
  go_ret
  exact ⟨rfl, (Ext.refl _).trans (by first | assumption | (apply Ext.trans <;> assumption))⟩
 have e : cmpI a b = 0 := by unfold cmpI; rw [if_neg h1, if_neg h2]
 rw [e]
 go_enter Tryz.func38, Tryz.ntmps38
 go_wp2_with (go_at_call 63; refine (isNaN_any _ _).mono ?_; rintro e w2 ⟨rfl, hx2⟩)
 go_ret
 exact ⟨rfl, (Ext.refl _).trans (by first | assumption | (apply Ext.trans <;> assumption))⟩
def orI (a b : Int) : Int := if a = 0 then b else a
theorem or_any (g off c : Nat) (a b : Int) (w : World) (h0 : w.cell? ⟨g, off, none⟩ = some (.int .i64 a)) (h1 : w.cell? ⟨g, off + 1, none⟩ = some (.int .i64 b)) :
  Calls Tryz.prog 37 #[.slice (some ⟨g, off, none⟩) 2 c] w fun e w' => e = .returned (.int .i64 (orI a b)) ∧ Ext w w' := by
 go_enter Tryz.func37, Tryz.ntmps37
 go_wp2_with fail
 go_loopg [8] 2 (fun d i wr => ∃ k : Nat, k ≤ 2 ∧ d = 2 - k ∧ i = .int .i64 k ∧ (0 < k → a = 0) ∧ (1 < k → b = 0) ∧ Ext w wr)
 case atStart => exact ⟨0, by omega, rfl, rfl, by omega, by omega, Ext.refl _⟩
 case round =>
  obtain ⟨k, hk, rfl, rfl, ha, hb, hx⟩ := hrel
  have HX := zH hx
  have k0 := hx.get h0
  have k1 := hx.get h1
  clear hx
  rcases (show k = 0 ∨ k = 1 ∨ k = 2 by omega) with rfl | rfl | rfl
  ·by_cases hz : a = 0
   ·subst hz
    go_wp2_with fail
    go_roundg 1
    case measure => omega
    case rel => exact ⟨1, by omega, rfl, by first | rfl | go_num, by simp, by omega, HX.out⟩
   clear ha hb
   go_wp2_with fail
   go_ret
   exact ⟨by simp [orI, hz], HX.out⟩
  ·have hz := ha (by omega)
   subst hz
   by_cases hz : b = 0
   ·subst hz
    clear ha hb
    go_wp2_with fail
    go_roundg 0
    case measure => omega
    case rel => exact ⟨2, by omega, rfl, by first | rfl | go_num, by simp, by simp, HX.out⟩
   clear ha hb
   go_wp2_with fail
   go_ret
   exact ⟨by simp [orI], HX.out⟩
  have hz := ha (by omega)
  have hz2 := hb (by omega)
  subst hz
  subst hz2
  clear ha hb
  go_wp2_with fail
  go_ret
  exact ⟨by simp [orI], HX.out⟩
end Go.Proofs.YtmgibncehlpfkaaGreat

namespace Go.Proofs.YtmgibncehlpfkaaGreat
open Go.RowKit
attribute [local go_sem ↓] Go.wp_at_zero Go.wp_at_succ run_max_ii run_min_ii

theorem noUn : NoU z4 := noU_of _ (by simp)
theorem NIs.own {w w' : World} {cs : Array Value} {q : Rat} (h : NIs w cs q) {g : Nat} {t : TypeId} {zs : Array Value} (hb : Blk w g t zs) (hn : NoU zs) (o : Own g w w') : NIs w' cs q := by
  obtain ⟨a, h1, h2⟩ := h
  exact ⟨a, h1, h2.own hb hn o⟩
theorem rlI (k : Int) (h : k.natAbs < 4294967296) : Nm.rl (k : Rat) ≤ 1 := by
  unfold Nm.rl
  rw [Rat.num_intCast, Rat.den_intCast]
  have h1 : Nm.nl k.natAbs ≤ 1 := Nm.nl_le (by omega)
  have h2 : Nm.nl 1 ≤ 1 := Nm.nl_le (by decide)
  omega
theorem pFromInts (a b : Int) (w : World) (h1 : -9223372036854775808 ≤ a) (h2 : a ≤ 9223372036854775807) (h3 : -9223372036854775808 ≤ b) (h4 : b ≤ 9223372036854775807) (hb : b ≠ 0) :
    Calls Tryz.prog 85 #[.int .i64 a, .int .i64 b] w fun e w' => ∃ c, e = .returned (.tuple #[.agg c, .int .i64 0]) ∧ NIs w' c ((a : Rat) / (b : Rat)) ∧ Ext w w' := by
  refine (rfromInts_any a b w h1 h2 h3 h4 hb).mono fun e w' h => ?_
  obtain ⟨c, rfl, h3, h4⟩ := RetRE.v h
  exact ⟨_, rfl, ⟨c, rfl, by rw [← Rat.divInt_eq_div]; exact h3⟩, h4⟩
set_option maxRecDepth 20000 in
set_option maxHeartbeats 8000000 in
theorem by_any (n d : Int) (w : World) (h1 : -9223372036854775808 ≤ n) (h2 : n ≤ 9223372036854775807) (h3 : -9223372036854775808 ≤ d) (h4 : d ≤ 9223372036854775807) (hd : d ≠ 0) :
  Calls Tryz.prog 60 #[.int .i64 n, .int .i64 d] w fun e w' => ∃ c, e = .returned (.agg c) ∧ NIs w' c ((n : Rat) / (d : Rat)) ∧ Ext w w' := by
 go_enter Tryz.func60, Tryz.ntmps60
 go_upto_region 1 with fail
 have hR0 : Blk (w.alloc (.cells z4 27)) (w.heap.size) 27 z4 := Blk.ext (Blk.new_at w _ (by simp) _ _) (Ext.refl _)
 have hE : Ext w (w.alloc (.cells z4 27)) := ((Ext.refl _).alloc _)
 have gR0 : w.heap.size ≤ w.heap.size := by omega
 generalize (w.alloc (.cells z4 27)) = wa at *
 have E1 : Hid (Ext w wa) := hE
 have FR0 := zH hR0
 clear hE hR0
 refine wp_region_lit ?_
 refine pV (w' := wa) ?_
 try simp only [Act.put, zA, zB, zC]
 refine pV (w' := wa) ?_
 try simp only [Act.put, zA, zB, zC]
 refine mv_call (by rfl) (by go_simp) (pFromInts n d _ h1 h2 h3 h4 hd) ?_
 rintro e w2 ⟨cf, rfl, hc, hx⟩
 have E2 : Hid (Ext wa w2) := hx
 have Fr := zH hc
 have ZF := hc.size
 have OF := hc.one
 clear hc
 clear hx
 refine ⟨_, rfl, ?_⟩
 try simp only [Act.put, zA, zB, zC]
 refine pV (w' := w2) ?_
 try simp only [Act.put, zA, zB, zC]
 refine pV (w' := w2) ?_
 try simp only [Act.put, zA, zB, zC]
 refine pV (w' := w2) ?_
 try simp only [Act.put, zA, zB, zC]
 refine zp (w' := w2.alloc (.cells z4 27)) (.pointer (some ⟨w2.heap.size, 0, none⟩)) (by go_simp) ?_
 refine pO cf (Blk.new w2 _ _) (Eq.trans ZF rfl) (by rw [show (cf : Array Value).size = 4 from ZF]; kernel_rfl) OF ?_
 (try simp only [Act.put])
 have nV5_R0 : w2.heap.size ≠ w.heap.size := Nat.ne_of_gt (Blk.lt (FR0.out.ext E2.out))
 obtain ⟨xq1, xq2⟩ := new_var w2 27 z4 cf (Eq.trans ZF rfl)
 generalize (w2.alloc (.cells z4 27)).setCells w2.heap.size 0 (cf : Array Value).toList = w3 at *
 generalize w2.heap.size = X3 at *
 have E3 : Hid (Ext w2 w3) := xq1
 have FV5 := zH xq2
 clear xq1 xq2
 refine pV (w' := w3) ?_
 try simp only [Act.put, zA, zB, zC]
 go_upto_region 2 with fail
 refine wp_region_lit ?_
 refine pL FV5.out Tryz.underlying27 (by rw [show (cf : Array Value).size = 4 from ZF]; kernel_rfl) ?_
 try simp only [Act.put, zA, zB, zC]
 have o1 := Own.setCells w3 w.heap.size cf
 have kb1 := (FR0.out.ext (tr E2 E3).out)
 refine pO cf kb1 (Eq.trans ZF rfl) (by rw [show (cf : Array Value).size = 4 from ZF]; kernel_rfl) OF ?_
 (try simp only [Act.put])
 have kc1 := kb1.setCells cf (Eq.trans ZF rfl)
 go_wp2_with fail
 refine bodyPost_ret (v := .agg cf) ?_ rfl ⟨_, rfl, ((Fr.out.ext E3.out).own kb1 noUn o1), (o1.ext (tr E1 (tr E2 E3)).out gR0)⟩
 exact results_cell1 rfl rfl (kc1.loadVar rfl rfl (by rw [ZF]; rfl))
set_option maxRecDepth 20000 in
set_option maxHeartbeats 8000000 in
theorem along_any (L : Nat) (a b : Int) (ct : Array Value) (T : Rat) (w : World) (hT : NIn L w ct T) (h1L : 1 ≤ L) (hL : L ≤ 20000) (ha : -10000000 ≤ a ∧ a ≤ 10000000) (hb : -10000000 ≤ b ∧ b ≤ 10000000) :
  Calls Tryz.prog 61 #[.int .i64 a, .int .i64 b, .agg ct] w fun e w' => ∃ c, e = .returned (.agg c) ∧ NIs w' c ((a : Rat) + T * ((b - a : Int) : Rat)) ∧ Ext w w' := by
 have wd : IntKind.i64.wrap (b - a) = b - a := by rw [IntKind.wrap_i64]; omega
 have rT := hT.rl h1L
 have q0 := rlI a (by omega)
 have q1 := rlI (b - a) (by omega)
 have q2 := Nm.rl_mul T ((b - a : Int) : Rat)
 have ZT := hT.size
 have FT := zH hT
 clear hT
 go_enter Tryz.func61, Tryz.ntmps61
 go_upto_region 1 with fail
 have hbx0 : Blk ((w.alloc (.cells ct 27)).alloc (.cells z4 27)) (w.heap.size) 27 ct := Blk.ext (Blk.new_at w _ (by simp) _ _) ((Ext.refl _).alloc _)
 have hR0 : Blk ((w.alloc (.cells ct 27)).alloc (.cells z4 27)) (w.heap.size + 1) 27 z4 := Blk.ext (Blk.new_at (w.alloc (.cells ct 27)) _ (by simp) _ _) (Ext.refl _)
 have hE : Ext w ((w.alloc (.cells ct 27)).alloc (.cells z4 27)) := (((Ext.refl _).alloc _).alloc _)
 have gR0 : w.heap.size ≤ w.heap.size + 1 := by omega
 have nbx0_R0 : w.heap.size ≠ w.heap.size + 1 := by omega
 generalize ((w.alloc (.cells ct 27)).alloc (.cells z4 27)) = wa at *
 generalize w.heap.size + 1 = R0 at *
 have E1 : Hid (Ext w wa) := hE
 have Fbx0 := zH hbx0
 have FR0 := zH hR0
 clear hE hbx0 hR0
 refine wp_region_held_drew (S := fun x => Own R0 wa x) (by kernel_rfl) (Own.of_ext (Ext.refl _).drew) (fun _ => ?_)
 have E2 := zH (show Ext wa wa.drew from (Ext.refl _).drew)
 refine mV 0 (bs 10 1) (Own.of_ext E2.out) ?_
 refine zl 2 (bs 10 5) (fun x hx => (Fbx0.out).own hx nbx0_R0) Tryz.underlying27 (by rw [show (ct : Array Value).size = 4 from ZT]; kernel_rfl) (Own.of_ext E2.out) ?_
 refine zv 3 (bs 10 13) (Own.of_ext E2.out) ?_
 refine zv 4 (bs 10 29) (Own.of_ext E2.out) ?_
 refine zv 5 (bs 10 61) (Own.of_ext E2.out) ?_
 refine mC 1 (bs 10 63) (pFrom a _ (by omega) (by omega)) ?_
 rintro e w3 ⟨c1, rfl, hc, hx⟩
 have E3 : Hid (Ext wa.drew w3) := hx
 have FFc1 := zH hc
 clear hc
 clear hx
 refine ⟨_, rfl, (Own.of_ext (tr E2 E3).out), ?_⟩
 try simp only [Act.put, zA, zB, zC]
 refine mC 6 (bs 10 127) (pFrom (b - a) _ (by omega) (by omega)) ?_
 rintro e w4 ⟨c2, rfl, hc, hx⟩
 have E4 : Hid (Ext w3 w4) := hx
 have FFc2 := zH hc
 clear hc
 clear hx
 refine ⟨_, rfl, (Own.of_ext (tr E2 (tr E3 E4)).out), ?_⟩
 try simp only [Act.put, zA, zB, zC]
 refine mC 7 (bs 10 255) (pMul (L := L + 2) ((FT.out.ext (tr E1 (tr E2 (tr E3 E4))).out).mono (by omega)) (FFc2.out.isIn (by omega)) (by omega)) ?_
 rintro e w5 ⟨c3, rfl, hc, hx⟩
 have E5 : Hid (Ext w4 w5) := hx
 have FM := zH hc
 clear hc
 clear hx
 refine ⟨_, rfl, (Own.of_ext (tr E2 (tr E3 (tr E4 E5))).out), ?_⟩
 try simp only [Act.put, zA, zB, zC]
 refine mC 8 (bs 10 511) (pAdd (L := 2 * L + 8) ((FFc1.out.ext (tr E4 E5).out).isIn (by omega)) (FM.out.isIn (by omega)) (by omega)) ?_
 rintro e w6 ⟨c4, rfl, hc, hx⟩
 have E6 : Hid (Ext w5 w6) := hx
 have Fr := zH hc
 have Z4 := hc.size
 have O4 := hc.one
 clear hc
 clear hx
 refine ⟨_, rfl, (Own.of_ext (tr E2 (tr E3 (tr E4 (tr E5 E6)))).out), ?_⟩
 try simp only [Act.put, zA, zB, zC]
 have o1 := Own.setCells w6 R0 c4
 have kb1 := (FR0.out.ext (tr E2 (tr E3 (tr E4 (tr E5 E6)))).out)
 have hs1 : Own R0 wa (w6.setCells R0 0 (c4 : Array Value).toList) := (Own.then_ext' (tr E2 (tr E3 (tr E4 (tr E5 E6)))).out o1)
 refine mO 9 (bs 10 1023) c4 kb1 (Eq.trans Z4 rfl) (by rw [show (c4 : Array Value).size = 4 from Z4]; kernel_rfl) O4 hs1 ?_
 (try simp only [Act.put])
 have kc1 := kb1.setCells c4 (Eq.trans Z4 rfl)
 refine wpAnyH_done (by kernel_rfl) ?_ _
 go_wp2_with fail
 refine bodyPost_ret (v := .agg c4) ?_ rfl ⟨_, rfl, (Fr.out.own kb1 noUn o1), (o1.ext (tr E1 (tr E2 (tr E3 (tr E4 (tr E5 E6))))).out gR0)⟩
 exact results_cell1 rfl rfl (kc1.loadVar rfl rfl (by rw [Z4]; rfl))

theorem NIn.own {L : Nat} {w w' : World} {cs : Array Value} {q : Rat} (h : NIn L w cs q) {g : Nat} {t : TypeId} {zs : Array Value} (hb : Blk w g t zs) (hn : NoU zs) (o : Own g w w') : NIn L w' cs q := by
  obtain ⟨a, h1, h2⟩ := h
  exact ⟨a, h1, h2.own hb hn o⟩
end Go.Proofs.YtmgibncehlpfkaaGreat
